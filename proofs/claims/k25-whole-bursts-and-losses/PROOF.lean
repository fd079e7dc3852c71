import PyProof.Rows.All
import Wide.All
import OpenK.AllK
import Wide.FinOn
import KE.KStateDown
import HandS.Base
import HandS.Call
import HandS.Ends
import HandS.More
import HandS.Words
import HandS.Defaults
import HandS.Head0
import HandS.Head1
import HandS.Head2
import HandS.HeadEnd
import HandS.HeadHook1
import HandS.HeadHook2
import HandS.HeadHook4
import HandS.ForMost
import HandS.Exc
import HandS.Star
import HandS.Zip
import HandS.Style
import HandS.TupAny
import HandS.TupMul
import HandS.TupSets
import HandS.IsInst
import HandS.Walk
import HandS.Conv
import HandS.Lambda
import KE.KTupSum
import KE.DataMinMax
import KE.GoesEnum
import PyProof.ReprLen
import HandS.ExcInit
import HandS.Nested
import KE.KExcSuper
import HandS.ExcField
import KE.KExcIs
import HandS.EndTab
import PySem.Challenge.RW_throwshelves_k25_whole_bursts_and_losses

set_option Elab.async false
set_option linter.all false
set_option maxRecDepth 100000
namespace Sh
open PySem PySem.Spec
      PyProof.Rows L2
abbrev prog : Program := PySem.Challenge.pw_throwshelves_k25_whole_bursts_and_losses
def top (i : Nat) : Stmt := prog.main.body.getD i (.Pass ⟨0, 0, 0, 0⟩)
abbrev s_is_integer : Stmt := top 1
abbrev s_is_number : Stmt := top 2
abbrev s_is_index : Stmt := top 3
abbrev s_is_size : Stmt := top 4
abbrev s_is_tuple_of : Stmt := top 5
abbrev s_is_stretch : Stmt := top 6
abbrev s_lead_of : Stmt := top 7
abbrev s_inverse_in : Stmt := top 9
abbrev s_times_by : Stmt := top 10
abbrev s_added_by : Stmt := top 11
abbrev s_less_times : Stmt := top 12
abbrev s_rest_by : Stmt := top 13
abbrev s_led_row : Stmt := top 14
abbrev s_reduced_by : Stmt := top 15
abbrev s_rank_among : Stmt := top 16
abbrev s_unit_by : Stmt := top 17
abbrev s_weights_in : Stmt := top 18
abbrev s_check_for : Stmt := top 19
abbrev s_checks_by : Stmt := top 20
abbrev s_column_in : Stmt := top 22
abbrev s_rank_at : Stmt := top 23
abbrev s_ring_places : Stmt := top 24
abbrev s_rank_along : Stmt := top 25
abbrev s_rank_in : Stmt := top 27
abbrev s_InvalidPaper_init : Stmt := inClass (top 32) 0
abbrev s_NotUsable_init : Stmt := inClass (top 33) 0
abbrev s_Lost_init : Stmt := inClass (top 34) 0
abbrev s_Torn_init : Stmt := inClass (top 35) 0
abbrev s_Barred_init : Stmt := inClass (top 36) 0
abbrev s_want : Stmt := top 38
abbrev s_want_place : Stmt := top 39
abbrev s_want_stretch : Stmt := top 40
abbrev s_lands_by : Stmt := top 42
abbrev s_balls_by : Stmt := top 43
abbrev s_thrown_by : Stmt := top 44
abbrev s_open_at : Stmt := top 46
abbrev s_is_digit_or_none : Stmt := top 47
abbrev s_lost_places : Stmt := top 48
abbrev s_are_told : Stmt := top 49
abbrev s_products_sum : Stmt := top 50
abbrev s_words_on : Stmt := top 51
abbrev s_check_against : Stmt := top 52
abbrev s_filled : Stmt := top 54
abbrev s_open_words : Stmt := top 55
abbrev s_holds_any : Stmt := top 56
abbrev s_mends_burst : Stmt := top 58
abbrev s_most_burst : Stmt := top 59
abbrev s_most_window : Stmt := top 60
abbrev s_open_rank : Stmt := top 61
abbrev s_next_ones : Stmt := top 63
abbrev s_ones_before : Stmt := top 64
abbrev s_chain_of : Stmt := top 65
abbrev s_L_feed : Stmt := top 67
abbrev s_L_same : Stmt := top 68
abbrev s_L_pick : Stmt := top 69
abbrev s_L_draw : Stmt := top 70
abbrev s_L_heard : Stmt := top 71
abbrev s_L_throws : Stmt := top 72
abbrev s_L_balls : Stmt := top 73
abbrev s_L_rank : Stmt := top 74
abbrev s_L_settled : Stmt := top 75
abbrev s_L_less : Stmt := top 76
abbrev s_L_book : Stmt := top 77
abbrev s_L_first : Stmt := top 78
abbrev s_L_back : Stmt := top 79
abbrev s_L_open : Stmt := top 80
abbrev s_L_places : Stmt := top 81
abbrev s_L_columns_rank : Stmt := top 82
abbrev s_L_pattern : Stmt := top 83
abbrev s_L_bridged_book : Stmt := top 84
abbrev s_L_are_stretches_right : Stmt := top 85
abbrev s_L_most : Stmt := top 86
abbrev s_L_are_menders_right : Stmt := top 87
abbrev s_L_are_throws_right : Stmt := top 88
abbrev s_L_word : Stmt := top 89
abbrev s_L_sum : Stmt := top 90
abbrev s_L_is_torn_right : Stmt := top 91
abbrev s_L_is_word : Stmt := top 92
abbrev s_L_is_lost_right : Stmt := top 93
abbrev s_L_filled : Stmt := top 94
abbrev s_L_is_filled_right : Stmt := top 95
abbrev s_L_is_right : Stmt := top 96
abbrev s_L_are_books_right : Stmt := top 97
abbrev s_law : Stmt := top 98
end Sh


set_option Elab.async false
set_option linter.all false
set_option maxRecDepth 100000
set_option maxHeartbeats 40000000
set_option autoImplicit false
/-! J1: data in the heap, slots by data, the judgement of an expression by data alone -/
namespace Sh
open PySem PySem.Spec
      PyProof.Rows L2

/-! ### data -/
mutual
/-- v stands for the data d; lists and tuples are tracked as they are -/
inductive Rp (H : Hp) : V → PyData → Prop
  | non : Rp H .non .none
  | bl (b : Bool) : Rp H (.bl b) (.bool b)
  | int (i : Int) : Rp H (.int i) (.int i)
  | str (x : Str) : Rp H (.str x) (.str x)
  | lst {a : Addr} {vs : List V} {ds : List PyData} : H a = some (.lst vs) → RpAll H vs ds → Rp H (.ref a) (.list ds)
  | tup {a : Addr} {vs : List V} {ds : List PyData} : H a = some (.tup vs) → RpAll H vs ds → Rp H (.ref a) (.tuple ds)
inductive RpAll (H : Hp) : List V → List PyData → Prop
  | nil : RpAll H [] []
  | cons {v : V} {vs : List V} {d : PyData} {ds : List PyData} : Rp H v d → RpAll H vs ds → RpAll H (v :: vs) (d :: ds)
end
mutual
theorem Rp.mono {H H' : Hp} (e : Same H H') : ∀ {v : V} {d : PyData}, Rp H v d → Rp H' v d
  | _, _, .non => .non
  | _, _, .bl b => .bl b
  | _, _, .int i => .int i
  | _, _, .str x => .str x
  | _, _, .lst h r => .lst (e _ _ h) (RpAll.mono e r)
  | _, _, .tup h r => .tup (e _ _ h) (RpAll.mono e r)
theorem RpAll.mono {H H' : Hp} (e : Same H H') : ∀ {vs : List V} {ds : List PyData}, RpAll H vs ds → RpAll H' vs ds
  | _, _, .nil => .nil
  | _, _, .cons r rs => .cons (Rp.mono e r) (RpAll.mono e rs)
end
mutual
theorem Rp.dp {K : PySem.W.Frag} {H : Hp} : ∀ {v : V} {d : PyData}, Rp H v d → Dp K H v d
  | _, _, .non => .non
  | _, _, .bl b => .bl b
  | _, _, .int i => .int i
  | _, _, .str x => .str x
  | _, _, .lst h r => .lst (SqL.of h) (RpAll.dp r)
  | _, _, .tup h r => .tup (SqT.of h) (RpAll.dp r)
theorem RpAll.dp {K : PySem.W.Frag} {H : Hp} : ∀ {vs : List V} {ds : List PyData}, RpAll H vs ds → DpAll K H vs ds
  | _, _, .nil => .nil
  | _, _, .cons r rs => .cons (Rp.dp r) (RpAll.dp rs)
end
section
variable {H H' : Hp} {v : V} {vs ws : List V} {d : PyData} {ds es : List PyData}
theorem RpAll.len : ∀ {vs : List V} {ds : List PyData}, RpAll H vs ds → vs.length = ds.length
  | _, _, .nil => rfl
  | _, _, .cons _ rs => by rw [List.length_cons, List.length_cons, RpAll.len rs]
theorem RpAll.get : ∀ {vs : List V} {ds : List PyData} {i : Nat} {d : PyData}, RpAll H vs ds → ds[i]? = some d → ∃ v, vs[i]? = some v ∧ Rp H v d
  | _, _, _, _, .nil,
        e => by simp at e
  | _, _, 0, _, .cons r _, e =>
        by simp at e; subst e; exact ⟨_, rfl, r⟩
  | _, _, i + 1, _, .cons _ rs, e => by
    obtain ⟨v, h1, h2⟩ := RpAll.get (i := i) rs (by simpa using e)
    exact ⟨v, by simpa using h1, h2⟩
theorem RpAll.getV {i : Nat} (r : RpAll H vs ds) (e : vs[i]? = some v) : ∃ d, ds[i]? = some d ∧ Rp H v d := by
  have hi : i < ds.length := by
    have := (List.getElem?_eq_some_iff.mp e).1
    rw [r.len] at this
    exact this
  obtain ⟨w, h1, h2⟩ := r.get (i := i) (d := ds[i]) (by simp [hi])
  rw [e] at h1
  cases h1
  exact ⟨_, by simp [hi], h2⟩
theorem RpAll.append : ∀ {vs ws : List V} {ds es : List PyData}, RpAll H vs ds → RpAll H ws es → RpAll H (vs ++ ws) (ds ++ es)
  | _, _, _, _, .nil, s => s
  | _, _, _, _, .cons r rs, s => .cons r (RpAll.append rs s)
theorem RpAll.take : ∀ {vs : List V} {ds : List PyData} (n : Nat), RpAll H vs ds → RpAll H (vs.take n) (ds.take n)
  | _, _, 0, _ => by simp only [List.take_zero]; exact .nil
  | _, _, _ + 1, .nil => .nil
  | _, _, n + 1, .cons r rs => .cons r (RpAll.take n rs)
theorem RpAll.drop : ∀ {vs : List V} {ds : List PyData} (n : Nat), RpAll H vs ds → RpAll H (vs.drop n) (ds.drop n)
  | _, _, 0, r => r
  | _, _, _ + 1, .nil => .nil
  | _, _, n + 1, .cons _ rs => RpAll.drop n rs
theorem RpAll.set : ∀ {vs : List V} {ds : List PyData} (i : Nat) {v : V} {d : PyData}, RpAll H vs ds → Rp H v d → RpAll H (vs.set i v) (ds.set i d)
  | _, _, _, _, _, .nil, _ => .nil
  | _, _, 0, _, _, .cons _ rs, q => .cons q rs
  | _, _, i + 1, _, _, .cons r rs, q => .cons r (RpAll.set i rs q)
theorem RpAll.reverse (r : RpAll H vs ds) : RpAll H vs.reverse ds.reverse := by
  have go : ∀ {vs : List V} {ds : List PyData}, RpAll H vs ds → RpAll H vs.reverse ds.reverse := by
    intro vs
    induction vs with
    | nil => intro ds r; cases r; exact .nil
    | cons v vs ih =>
      intro ds r
      cases r with
      | cons r rs =>
        rw [List.reverse_cons,
              List.reverse_cons]
        exact (ih rs).append (.cons r .nil)
  exact go r
theorem RpAll.ints : ∀ {vs : List V} {ns : List Int}, RpAll H vs (ns.map PyData.int) → vs = ns.map V.int
  | _, [], .nil => rfl
  | _, n :: ns, .cons r rs => by cases r; rw [RpAll.ints rs, List.map_cons]
theorem RpAll.of_ints : ∀ (ns : List Int), RpAll H (ns.map V.int) (ns.map PyData.int)
  | [] => .nil
  | n :: ns => .cons (.int n) (RpAll.of_ints ns)
theorem RpAll.bools : ∀ {vs : List V} {ns : List Bool}, RpAll H vs (ns.map PyData.bool) → vs = ns.map V.bl
  | _, [], .nil => rfl
  | _, n :: ns, .cons r rs => by cases r; rw [RpAll.bools rs, List.map_cons]
end

/-! ### what is not told: addresses that may still be written -/
def hide (O : List Addr) (H : Hp) : Hp := fun a => if a ∈ O then none else H a
section
variable {O : List Addr} {H H' : Hp} {a l : Addr} {o : HO}
theorem hide_out (h : a ∉ O) : hide O H a = H a := if_neg h
theorem hide_in (h : a ∈ O) : hide O H a = none := if_pos h
theorem hide_some (h : hide O H a = some o) : a ∉ O ∧ H a = some o := by
  unfold hide at h
  split at h
  · cases h
  · exact ⟨‹_›, h⟩
theorem hide_same (e : Same H H') : Same (hide O H) (hide O H') := fun b o h => by
  obtain ⟨h1, h2⟩ := hide_some h
  rw [hide_out h1]
  exact e b o h2
theorem hide_sub : Same (hide O H) H := fun b o h => (hide_some h).2
theorem hide_cons (hl : H l = none) : Same (hide O H) (hide (l :: O) H) := fun b o h => by
  obtain ⟨h1, h2⟩ := hide_some h
  rw [hide_out]
  · exact h2
  · intro z
    rcases List.mem_cons.mp
          z with z | z
    · rw [z, hl] at h2; cases h2
    · exact h1 z
theorem hide_uncons : Same (hide (l :: O) H) (hide O H) := fun b o h => by
  obtain ⟨h1, h2⟩ := hide_some h
  rw [hide_out (fun z => h1 (List.mem_cons_of_mem _ z))]
  exact h2
theorem hide_mono {O' : List Addr} (h : ∀ a ∈ O', a ∈ O) : Same (hide O H) (hide O' H) := fun b o q => by
  obtain ⟨h1, h2⟩ := hide_some q
  rw [hide_out (fun z => h1 (h b z))]
  exact h2
theorem hide_upd (hl : l ∈ O) : hide O (upd H l o) = hide O H := by
  funext b
  unfold hide
  by_cases hb : b ∈ O
  · rw [if_pos hb, if_pos hb]
  · rw [if_neg hb, if_neg hb, upd_ne (fun z => hb (by rw [z]; exact hl))]
/-- what is new is not hidden -/
theorem not_in_of_new (dom : ∀ a ∈ O, H a ≠ none) (h : H a = none) : a ∉ O := fun z => dom a z h
theorem Same.upd_new {H : Hp} {p : Addr} {o : HO} (h : H p = none) : Same H (upd H p o) := fun a u e => by
  rw [upd_ne (ne_of_none e h)]
  exact e
theorem dom_mono (dom : ∀ a ∈ O, H a ≠ none) (e : Same H H') : ∀ a ∈ O, H' a ≠ none := fun a ha z => by
  cases q : H a with
  | none => exact dom a ha q
  | some o => rw [e a o q] at z; cases z
end

/-! ### slots by data -/
inductive Slot where
  | unk | val (d : PyData) | own (xs : List PyData) | fd | dct (kvs : List (Int × Int)) | dkv (kvs : List (Key × PyData))
/-- what may change behind a call: the feed of draws, the tables of code objects -/
structure FA where
  ad : Addr
  ce : Addr
  T : List (Addr × Str)
/-- all these addresses -/
def FA.all (fa : FA) : List Addr := fa.ad :: fa.T.map (·.1)
abbrev FA.In (fa : FA) (O : List Addr) : Prop := ∀ a ∈ fa.all, a ∈ O
theorem upIn {fa : FA} {O O' : List Addr} (s : ∀ a ∈ O, a ∈ O') (h : fa.In O) : fa.In O' := fun a ha => s a (h a ha)
/-- the value of a slot: fa tells the feed's address -/
def SlotOk (fa : FA) (O : List Addr) (H : Hp) (x : Option V) : Slot → Prop
  | .unk => True
  | .val d => ∃ v, x = some v ∧ Rp (hide O H) v d
  | .own ds => ∃ l vs, x = some (.ref l) ∧ l ∈ O ∧ H l = some (.lst vs) ∧ RpAll (hide O H) vs ds
  | .fd => x = some (.ref fa.ad)
  | .dct kvs => ∃ a, x = some (.ref a) ∧ hide O H a = some (.dK (kvs.map fun kv => (.inl kv.1, .int kv.2)))
  | .dkv kvs => ∃ (a : Addr) (ws : List (Key × V)), x = some (.ref a) ∧ hide O H a = some (.dK ws) ∧ ws.map (·.1) = kvs.map (·.1) ∧ RpAll (hide O H) (ws.map (·.2)) (kvs.map (·.2))
structure StOk (fa : FA) (O : List Addr) (H : Hp) (σ : L2.St) (ds : List Slot) : Prop where
  len : σ.length = ds.length
  sl : ∀ (i : Nat) (s : Slot), ds[i]? = some s → ∃ x, σ[i]? = some x ∧ SlotOk fa O H x s
  ap : ∀ (i j : Nat) (xs ys : List PyData) (l : Addr), ds[i]? = some (.own xs) → ds[j]? = some (.own ys) → i ≠ j → σ[i]? = some (some (.ref l)) → σ[j]? ≠ some (some (.ref l))
  dom : ∀ a ∈ O, H a ≠ none
section
variable {fa : FA} {O : List Addr} {H H' : Hp} {σ : L2.St} {ds : List Slot} {x : Option V} {s : Slot} {d : PyData} {v : V} {i : Nat}
theorem SlotOk.mono (e : Same H H') (h : SlotOk fa O H x s) : SlotOk fa O H' x s := by
  cases s with
  | unk => trivial
  | val d => obtain ⟨v, h1, h2⟩ := h; exact ⟨v, h1, h2.mono (hide_same e)⟩
  | own xs => obtain ⟨l, vs, h1, h2, h3, h4⟩ := h; exact ⟨l, vs, h1, h2, e _ _ h3, h4.mono (hide_same e)⟩
  | fd => exact h
  | dct kvs => obtain ⟨q, q1, q2⟩ := h; exact ⟨q, q1, hide_same e _ _ q2⟩
  | dkv kvs => obtain ⟨q, ws, q1, q2, q3, q4⟩ := h; exact ⟨q, ws, q1, hide_same e _ _ q2, q3, q4.mono (hide_same e)⟩
theorem StOk.mono (e : Same H H') (h : StOk fa O H σ ds) : StOk fa O H' σ ds :=
  ⟨h.len, fun i s q => let ⟨x, h1, h2⟩ := h.sl i s q; ⟨x, h1, h2.mono e⟩, h.ap, dom_mono h.dom e⟩
theorem StOk.var (h : StOk fa O H σ ds) (q : ds[i]? = some (.val d)) : ∃ v, σ[i]? = some (some v) ∧ Rp (hide O H) v d := by
  obtain ⟨x, h1, v, rfl, h2⟩ := h.sl i _ q
  exact ⟨v, h1, h2⟩
theorem StOk.set (h : StOk fa O H σ ds) (r : Rp (hide O H) v d) : StOk fa O H (σ.set i (some v)) (ds.set i (.val d)) := by
  refine ⟨by rw [List.length_set, List.length_set, h.len], fun j s q => ?_, fun j k xs ys l q1 q2 hjk e1 => ?_, h.dom⟩
  · by_cases hj : i = j
    · subst hj
      have hi : i < ds.length := by
        have := (List.getElem?_eq_some_iff.mp q).1
        rwa [List.length_set] at this
      rw [List.getElem?_set_self hi] at q
      cases q
      exact ⟨some v, List.getElem?_set_self (by rw [h.len]; exact hi), v, rfl, r⟩
    · rw [List.getElem?_set_ne hj] at q
      rw [List.getElem?_set_ne hj]
      exact h.sl j s q
  · have no : ∀ {m zs}, (ds.set i (.val d))[m]? = some (Slot.own zs) → i ≠ m ∧ ds[m]? = some (.own zs) := fun {m zs} q => by
      by_cases hm : i = m
      · subst hm
        have hi : i < ds.length := by
          have := (List.getElem?_eq_some_iff.mp q).1
          rwa [List.length_set] at this
        rw [List.getElem?_set_self hi] at q
        cases q
      · rw [List.getElem?_set_ne hm] at q
        exact ⟨hm, q⟩
    obtain ⟨n1, q1⟩ := no q1
    obtain ⟨n2, q2⟩ := no q2
    rw [List.getElem?_set_ne n1] at e1
    rw [List.getElem?_set_ne n2]
    exact h.ap j k xs ys l q1 q2 hjk e1
theorem StOk.forget (h : StOk fa O H σ ds) (y : Option V) : StOk fa O H (σ.set i y) (ds.set i .unk) := by
  refine ⟨by rw [List.length_set, List.length_set, h.len], fun j s q => ?_, fun j k xs ys l q1 q2 hjk e1 => ?_, h.dom⟩
  · by_cases hj : i = j
    · subst hj
      have hi : i < ds.length := by
        have := (List.getElem?_eq_some_iff.mp q).1
        rwa [List.length_set] at this
      rw [List.getElem?_set_self hi] at q
      cases q
      exact ⟨y, List.getElem?_set_self (by rw [h.len]; exact hi), trivial⟩
    · rw [List.getElem?_set_ne hj] at q
      rw [List.getElem?_set_ne hj]
      exact h.sl j s q
  · have no : ∀ {m zs}, (ds.set i .unk)[m]? = some (Slot.own zs) → i ≠ m ∧ ds[m]? = some (.own zs) := fun {m zs} q => by
      by_cases hm : i = m
      · subst hm
        have hi : i < ds.length := by
          have := (List.getElem?_eq_some_iff.mp q).1
          rwa [List.length_set] at this
        rw [List.getElem?_set_self hi] at q
        cases q
      · rw [List.getElem?_set_ne hm] at q
        exact ⟨hm, q⟩
    obtain ⟨n1, q1⟩ := no q1
    obtain ⟨n2, q2⟩ := no q2
    rw [List.getElem?_set_ne n1] at e1
    rw [List.getElem?_set_ne n2]
    exact h.ap j k xs ys l q1 q2 hjk e1
/-- a slot's knowledge dropped, its value as it is -/
theorem StOk.drop (h : StOk fa O H σ ds) : StOk fa O H σ (ds.set i .unk) := by
  by_cases hi : i < σ.length
  · have e : σ.set i σ[i] = σ := by
      apply List.ext_getElem?
      intro j
      by_cases hj : i = j
      · subst hj; rw [List.getElem?_set_self hi]; simp [hi]
      · rw [List.getElem?_set_ne hj]
    have q := h.forget (i := i) σ[i]
    rw [e] at q
    exact q
  · rw [List.set_eq_of_length_le (by rw [← h.len]; omega)]
    exact h
/-- one more address that is not told, new since -/
theorem StOk.hideMore {l : Addr} (h : StOk fa O H σ ds) (hl : H l = none) (e : Same H H') (hl' : H' l ≠ none) : StOk fa (l :: O) H' σ ds := by
  refine ⟨h.len, fun i s q => ?_, h.ap, fun a ha => ?_⟩
  · obtain ⟨x, h1, h2⟩ := h.sl i s q
    refine ⟨x, h1, ?_⟩
    have e2 : Same (hide O H) (hide (l :: O) H') := (hide_cons hl).trans (hide_same e)
    cases s with
    | unk => trivial
    | val d => obtain ⟨v, q1, q2⟩ := h2; exact ⟨v, q1, q2.mono e2⟩
    | own xs => obtain ⟨m, vs, q1, q2, q3, q4⟩ := h2; exact ⟨m, vs, q1, List.mem_cons_of_mem _ q2, e _ _ q3, q4.mono e2⟩
    | fd => exact h2
    | dct kvs => obtain ⟨q, q1, q2⟩ := h2; exact ⟨q, q1, e2 _ _ q2⟩
    | dkv kvs => obtain ⟨q, ws, q1, q2, q3, q4⟩ := h2; exact ⟨q, ws, q1, e2 _ _ q2, q3, q4.mono e2⟩
  · rcases List.mem_cons.mp ha with z | z
    · rw [z]; exact hl'
    · exact dom_mono h.dom e a z
/-- the slots of a block's own names forgotten -/
def wipeD (ds : List Slot) : List Nat → List Slot
  | [] => ds
  | i :: is => (wipeD ds is).set i .unk
theorem StOk.wiped (h : StOk fa O H σ ds) : ∀ is : List Nat, StOk fa O H (wipe σ is) (wipeD ds is)
  | [] => h
  | i :: is => (StOk.wiped h is).forget none
end

/-! ### where a text stands -/
theorem takesNo {X : Cx} : Takes X (fun _ _ _ _ => False) := fun u s' h => by
  obtain ⟨a, B, sI, pn, σ, H, c, d, _, _, _, _, _, _, _, _, w⟩ := h
  exact w.elim
structure SC where
  prog : Program
  w : World
  K : PySem.W.Frag
  mg : Str → Option Value
  base : Heap
  N : List Str
  scope : Scope
  fn : Str → Bool
  k : Nat
  g : Bool
  fa : FA
  W : WX
  ev : Option (Value × Str)
structure SC.Holds (S : SC) (X : Cx) : Prop where
  prog : X.prog = S.prog
  w : X.w = S.w
  K : X.K = S.K
  mg : X.mg = S.mg
  base : X.base = S.base
  N : X.N = S.N
  nd : S.N.Nodup
  scope : X.env.scope = S.scope
  fn : X.fn = S.fn
  calm : X.calm = true
  room : Room S.k X.A
  gd : S.g = true → X.A.guards = some []
  tk : Takes X S.W
  ps : PassesOwn (model X.prog X.w) X.A X.env X.xe
  ev : ∀ q, S.ev = some q → X.env.code = q.1 ∧ X.env.qual = q.2
/-- within a comprehension's block -/
def SC.blk (S : SC) (scope : Scope) : SC := { S with scope := relS scope S.scope, fn := fun x => scope.names.lookup x == some .cell, W := fun _ _ _ _ => False, ev := none }
theorem SC.Holds.blk {S : SC} {X : Cx} (h : S.Holds X) (s : Shared) (H : Hp) (scope : Scope) (C : Addr) (cl : List (Str × Addr)) (fp : List Addr) :
    (S.blk scope).Holds (X.blk s H scope (compEnvC scope cl C X.env) fp) :=
  ⟨h.prog, h.w, h.K, h.mg, h.base, h.N, h.nd, by show relS scope X.env.scope = _; rw [h.scope]; rfl, rfl, h.calm, h.room, h.gd, takesNo, by rw [show (X.blk s H scope (compEnvC scope cl C X.env) fp).xe = fun _ _ => False from rfl]; exact PassesOwn.never, fun _ h => by cases h⟩

/-! ### the weakest readings -/
def teOf (S : SC) (e : Expr) : TE := fun σ H Q => ∃ t : TE, (∀ X, S.Holds X → PE X e t) ∧ t σ H Q
def ttOf (S : SC) (e : Expr) : TT := fun σ H Q => ∃ t : TT, (∀ X, S.Holds X → PT X e t) ∧ t σ H Q
def taOf (S : SC) (es : List Expr) : TA := fun σ H Q => ∃ t : TA, (∀ X, S.Holds X → PA X es t) ∧ t σ H Q
def tcOf (S : SC) (ifs : List Expr) : TT := fun σ H Q => ∃ t : TT, (∀ X, S.Holds X → PTs X ifs t) ∧ t σ H Q
def tsOf (S : SC) (sts : List Stmt) : TS := fun D σ H => ∃ t : TS, (∀ X, S.Holds X → PSs X sts t) ∧ t D σ H
section
variable {S : SC} {X : Cx} {e : Expr} {es : List Expr} {sts : List Stmt} {σ : L2.St} {H : Hp}
theorem pe_teOf (h : S.Holds X) : PE X e (teOf S e) := ⟨fun pins s σ H Q I ⟨_, ht, hq⟩ => (ht X h).run pins s σ H Q I hq⟩
theorem pt_ttOf (h : S.Holds X) : PT X e (ttOf S e) := ⟨fun pins s σ H Q I ⟨_, ht, hq⟩ => (ht X h).run pins s σ H Q I hq⟩
theorem pa_taOf (h : S.Holds X) : PA X es (taOf S es) := ⟨fun pos pins s σ H Q I ⟨_, ht, hq⟩ => (ht X h).run pos pins s σ H Q I hq⟩
theorem pts_tcOf (h : S.Holds X) : PTs X es (tcOf S es) := ⟨fun pins s σ H Q I ⟨_, ht, hq⟩ => (ht X h).run pins s σ H Q I hq⟩
theorem pss_tsOf (h : S.Holds X) : PSs X sts (tsOf S sts) := ⟨fun pins s σ H D I ⟨_, ht, hq⟩ => (ht X h).run pins s σ H D I hq⟩
theorem te_mk {t : TE} {Q : VK} (h : ∀ X, S.Holds X → PE X e t) (hq : t σ H Q) : teOf S e σ H Q := ⟨t, h, hq⟩
theorem tt_mk {t : TT} {Q : Bool → Hp → Prop} (h : ∀ X, S.Holds X → PT X e t) (hq : t σ H Q) : ttOf S e σ H Q := ⟨t, h, hq⟩
theorem ta_mk {t : TA} {Q : List V → Hp → Prop} (h : ∀ X, S.Holds X → PA X es t) (hq : t σ H Q) : taOf S es σ H Q := ⟨t, h, hq⟩
theorem tc_mk {t : TT} {Q : Bool → Hp → Prop} (h : ∀ X, S.Holds X → PTs X es t) (hq : t σ H Q) : tcOf S es σ H Q := ⟨t, h, hq⟩
theorem ts_mk {t : TS} {D : Ends} (h : ∀ X, S.Holds X → PSs X sts t) (hq : t D σ H) : tsOf S sts D σ H := ⟨t, h, hq⟩
end

/-! ### an expression by data -/
def JE (S : SC) (ds : List Slot) (e : Expr) (d : PyData) : Prop :=
  ∀ (O : List Addr) (σ : L2.St) (H : Hp), StOk S.fa O H σ ds → ∀ Q : VK, (∀ v H', Same H H' → Rp (hide O H') v d → Q v H') → teOf S e σ H Q
def JT (S : SC) (ds : List Slot) (e : Expr) (b : Bool) : Prop :=
  ∀ (O : List Addr) (σ : L2.St) (H : Hp), StOk S.fa O H σ ds → ∀ Q : Bool → Hp → Prop, (∀ H', Same H H' → Q b H') → ttOf S e σ H Q
def JA (S : SC) (ds : List Slot) (es : List Expr) (xs : List PyData) : Prop :=
  ∀ (O : List Addr) (σ : L2.St) (H : Hp), StOk S.fa O H σ ds → ∀ Q : List V → Hp → Prop, (∀ vs H', Same H H' → RpAll (hide O H') vs xs → Q vs H') → taOf S es σ H Q
/-- a clause's tests -/
def JC (S : SC) (ds : List Slot) (ifs : List Expr) (b : Bool) : Prop :=
  ∀ (O : List Addr) (σ : L2.St) (H : Hp), StOk S.fa O H σ ds → ∀ Q : Bool → Hp → Prop, (∀ H', Same H H' → Q b H') → tcOf S ifs σ H Q
/-- an operation on two values, by data -/
def RD2 (r : R2) (x y z : PyData) : Prop := ∀ (O : List Addr) (H : Hp) (v w : V), (∀ a ∈ O, H a ≠ none) → Rp (hide O H) v x → Rp (hide O H) w y →
  ∀ Q : VK, (∀ u H', Same H H' → Rp (hide O H') u z → Q u H') → r v w H Q
/-- a call on values -/
def RDC (r : List V → Hp → VK → Prop) (xs : List PyData) (z : PyData) : Prop := ∀ (O : List Addr) (H : Hp) (vs : List V), (∀ a ∈ O, H a ≠ none) → RpAll (hide O H) vs xs →
  ∀ Q : VK, (∀ u H', Same H H' → Rp (hide O H') u z → Q u H') → r vs H Q
theorem new_rp {O : List Addr} {H : Hp} {p : Addr} {vs : List V} {xs : List PyData} (dom : ∀ a ∈ O, H a ≠ none) (hp : H p = none) (r : RpAll (hide O H) vs xs) :
    Rp (hide O (upd H p (.lst vs))) (.ref p) (.list xs) :=
  .lst (by rw [hide_out (not_in_of_new dom hp), upd_same]) (r.mono (hide_same (Same.upd_new hp)))
theorem new_rpT {O : List Addr} {H : Hp} {p : Addr} {vs : List V} {xs : List PyData} (dom : ∀ a ∈ O, H a ≠ none) (hp : H p = none) (r : RpAll (hide O H) vs xs) :
    Rp (hide O (upd H p (.tup vs))) (.ref p) (.tuple xs) :=
  .tup (by rw [hide_out (not_in_of_new dom hp), upd_same]) (r.mono (hide_same (Same.upd_new hp)))
section
variable {S : SC} {ds : List Slot} {a b c e : Expr} {es ifs : List Expr} {x y z d : PyData} {xs : List PyData} {pos p : Pos} {i j : Int} {k l m : Bool}
theorem JE.is (h : JE S ds e x) (q : x = y) : JE S ds e y := q ▸ h
theorem JT.is (h : JT S ds e k) (q : k = l) : JT S ds e l := q ▸ h
theorem je_var {n : Nat} {x : Str} (hq : ds[n]? = some (.val d)) (hN : S.N[n]? = some x := by rfl)
    (hv : Vis S.scope x := by first | exact Or.inl rfl | exact Or.inr (Or.inl rfl) | exact Or.inr (Or.inr rfl))
    (h1 : (x == ("__debug__" : Str)) = false := by decide) (h2 : (x == ("__classdict__" : Str)) = false := by decide) : JE S ds (.Name x pos) d := by
  intro O σ H st Q k
  obtain ⟨v, e, r⟩ := st.var hq
  exact te_mk (fun X h => pe_var (i := n) (h.N ▸ hN) (h.scope ▸ hv) h1 h2) ⟨v, e, k v H (Same.refl H) r⟩
theorem je_int {n : Nat} : JE S ds (.Constant (.int i) n pos) (.int i) := fun O σ H st Q k => te_mk (fun X h => pe_int) (k _ H (Same.refl H) (.int i))
theorem je_bl {n : Nat} : JE S ds (.Constant (.bool m) n pos) (.bool m) := fun O σ H st Q k => te_mk (fun X h => pe_bl) (k _ H (Same.refl H) (.bl m))
theorem je_non {n : Nat} : JE S ds (.Constant .none n pos) .none := fun O σ H st Q k => te_mk (fun X h => pe_non) (k _ H (Same.refl H) .non)
theorem je_str {n : Nat} {t : Str} : JE S ds (.Constant (.str t) n pos) (.str t) := fun O σ H st Q k => te_mk (fun X h => pe_str) (k _ H (Same.refl H) (.str t))
theorem je_op {op : Operator} {r : R2} (ho : ∀ X, S.Holds X → OpR X (binaryOp op) r) (ha : JE S ds a x) (hb : JE S ds b y) (hr : RD2 r x y z) : JE S ds (.BinOp a op b pos) z := by
  intro O σ H st Q k
  refine te_mk (fun X h => pe_op (ho X h) (pe_teOf h) (pe_teOf h)) ?_
  refine ha O σ H st _ fun v H1 e1 r1 => hb O σ H1 (st.mono e1) _ fun w H2 e2 r2 => ?_
  exact hr O H2 v w (dom_mono st.dom (e1.trans e2)) (r1.mono (hide_same e2)) r2 Q fun u H3 e3 r3 => k u H3 ((e1.trans e2).trans e3) r3
theorem je_cmpR {op : CmpOp} {r : R2} (ho : ∀ X, S.Holds X → OpR X (compareOp op) r) (ha : JE S ds a x) (hb : JE S ds b y) (hm : behindInMarks op b = false) (hr : RD2 r x y z) : JE S ds (.Compare a [op] [b] pos) z := by
  intro O σ H st Q k
  refine te_mk (fun X h => pe_cmpR (ho X h) (pe_teOf h) (pe_teOf h) hm) ?_
  refine ha O σ H st _ fun v H1 e1 r1 => hb O σ H1 (st.mono e1) _ fun w H2 e2 r2 => ?_
  exact hr O H2 v w (dom_mono st.dom (e1.trans e2)) (r1.mono (hide_same e2)) r2 Q fun u H3 e3 r3 => k u H3 ((e1.trans e2).trans e3) r3
theorem jt_cmpR {op : CmpOp} {r : R2} (ho : ∀ X, S.Holds X → OpR X (compareOp op) r) (ha : JE S ds a x) (hb : JE S ds b y) (hm : behindInMarks op b = false) (hr : RD2 r x y (.bool k)) : JT S ds (.Compare a [op] [b] pos) k := by
  intro O σ H st Q kk
  refine tt_mk (fun X h => pt_cmpR (ho X h) (pe_teOf h) (pe_teOf h) hm) ?_
  refine ha O σ H st _ fun v H1 e1 r1 => hb O σ H1 (st.mono e1) _ fun w H2 e2 r2 => ?_
  refine hr O H2 v w (dom_mono st.dom (e1.trans e2)) (r1.mono (hide_same e2)) r2 _ fun u H3 e3 r3 => ?_
  cases r3
  exact ⟨k, rfl, kk H3 ((e1.trans e2).trans e3)⟩
/-- subscripts -/
theorem je_ix {r : R2} (ho : ∀ X, S.Holds X → IxR X r) (hs : PlainIx b) (ha : JE S ds a x) (hb : JE S ds b y) (hr : RD2 r x y z) : JE S ds (.Subscript a b pos) z := by
  intro O σ H st Q k
  refine te_mk (fun X h => pe_ix (ho X h) (pe_teOf h) (pe_teOf h) hs) ?_
  refine ha O σ H st _ fun v H1 e1 r1 => hb O σ H1 (st.mono e1) _ fun w H2 e2 r2 => ?_
  exact hr O H2 v w (dom_mono st.dom (e1.trans e2)) (r1.mono (hide_same e2)) r2 Q fun u H3 e3 r3 => k u H3 ((e1.trans e2).trans e3) r3
end
/-! ### operations by data -/
def isNone : PyData → Bool
  | .none => true
  | _ => false
theorem rd_I0 {g : Int → Int → Int} {i j : Int} : RD2 (rI0 fun i j => .int (g i j)) (.int i) (.int j) (.int (g i j)) := fun O H v w dom r1 r2 Q k => by
  cases r1; cases r2
  exact ⟨i, j, rfl, rfl, k _ H (Same.refl H) (.int _)⟩
theorem rd_B0 {g : Int → Int → Bool} {i j : Int} : RD2 (rI0 fun i j => .bl (g i j)) (.int i) (.int j) (.bool (g i j)) := fun O H v w dom r1 r2 Q k => by
  cases r1; cases r2
  exact ⟨i, j, rfl, rfl, k _ H (Same.refl H) (.bl _)⟩
theorem rd_I {C : Int → Int → Prop} {g : Int → Int → Int} {i j : Int} (hc : C i j) : RD2 (rI C fun i j => .int (g i j)) (.int i) (.int j) (.int (g i j)) := fun O H v w dom r1 r2 Q k => by
  cases r1; cases r2
  exact ⟨i, j, rfl, rfl, hc, k _ H (Same.refl H) (.int _)⟩
theorem rd_eqI {i j : Int} : RD2 rEq (.int i) (.int j) (.bool (decide (i = j))) := fun O H v w dom r1 r2 Q k => by
  cases r1; cases r2
  refine ⟨rfl, ?_⟩
  rw [dec_int]
  exact k _ H (Same.refl H) (.bl _)
theorem rd_neI {i j : Int} : RD2 rNe (.int i) (.int j) (.bool (decide (i ≠ j))) := fun O H v w dom r1 r2 Q k => by
  cases r1; cases r2
  refine ⟨rfl, ?_⟩
  rw [dec_int]
  have e : (!(i == j)) = decide (i ≠ j) := by
    by_cases h : i = j <;> simp [h]
  rw [e]
  exact k _ H (Same.refl H) (.bl _)
theorem rd_eqS {s t : Str} : RD2 rEq (.str s) (.str t) (.bool (decide (s = t))) := fun O H v w dom r1 r2 Q k => by
  cases r1; cases r2
  refine ⟨rfl, ?_⟩
  have e : decide (V.str s = V.str t) = decide (s = t) := by
    by_cases h : s = t
    · simp [h]
    · rw [decide_eq_false h, decide_eq_false (fun z => h (V.str.inj z))]
  rw [e]
  exact k _ H (Same.refl H) (.bl _)
theorem rd_neS {s t : Str} : RD2 rNe (.str s) (.str t) (.bool (decide (s ≠ t))) := fun O H v w dom r1 r2 Q k => by
  cases r1; cases r2
  refine ⟨rfl, ?_⟩
  have e : (!decide (V.str s = V.str t)) = decide (s ≠ t) := by
    by_cases h : s = t
    · simp [h]
    · rw [decide_eq_true h, decide_eq_false (fun z => h (V.str.inj z))]
      rfl
  rw [e]
  exact k _ H (Same.refl H) (.bl _)
theorem rd_isN {r : R2} (hr : r = fun x y H Q => y = .non ∧ Q (.bl (decide (x = .non))) H) {d : PyData} : RD2 r d .none (.bool (isNone d)) := fun O H v w dom r1 r2 Q k => by
  subst hr
  cases r2
  refine ⟨rfl, ?_⟩
  have e : decide (v = V.non) = isNone d := by
    cases r1 <;> simp [isNone]
  rw [e]
  exact k _ H (Same.refl H) (.bl _)
theorem rd_notN {r : R2} (hr : r = fun x y H Q => y = .non ∧ Q (.bl (!decide (x = .non))) H) {d : PyData} : RD2 r d .none (.bool (!isNone d)) := fun O H v w dom r1 r2 Q k => by
  subst hr
  cases r2
  refine ⟨rfl, ?_⟩
  have e : (!decide (v = V.non)) = (!isNone d) := by
    cases r1 <;> simp [isNone]
  rw [e]
  exact k _ H (Same.refl H) (.bl _)
end Sh


set_option Elab.async false
set_option linter.all false
set_option maxRecDepth 100000
set_option maxHeartbeats 40000000
set_option autoImplicit false
/-! J2: arguments, displays, calls, choices, slices, comprehensions, by data -/
namespace Sh
open PySem PySem.Spec
      PyProof.Rows L2
/-! ### typed data -/
def tupE {α : Type} (enc : α → PyData) (xs : List α) : PyData := .tuple (xs.map enc)
def lstE {α : Type} (enc : α → PyData) (xs : List α) : PyData := .list (xs.map enc)
/-- a list or a tuple by its items -/
inductive IsSeq : PyData → List PyData → Prop
  | l (ds : List PyData) : IsSeq (.list ds) ds
  | t (ds : List PyData) : IsSeq (.tuple ds) ds
theorem Rp.seq {K : PySem.W.Frag} {O : List Addr} {H : Hp} {v : V} {d : PyData} {ds : List PyData} (r : Rp (hide O H) v d) (q : IsSeq d ds) :
    ∃ a vs, v = .ref a ∧ RpAll (hide O H) vs ds ∧ (SqL K H a vs ∨ SqT K H a vs) := by
  cases q with
  | l =>
    cases r with
    | lst h rs => exact ⟨_, _, rfl, rs, .inl (SqL.of (hide_sub _ _ h))⟩
  | t =>
    cases r with
    | tup h rs => exact ⟨_, _, rfl, rs, .inr (SqT.of (hide_sub _ _ h))⟩

section
variable {S : SC} {ds : List Slot} {a b c e : Expr} {es ifs rest : List Expr} {x y z d : PyData} {xs ys : List PyData} {pos p : Pos} {i j : Int} {k l m : Bool}
/-! ### arguments -/
theorem ja_nil : JA S ds [] [] := fun O σ H st Q k => ta_mk (fun X h => pa_nil) (k [] H (Same.refl H) .nil)
theorem ja_cons (ha : JE S ds e x) (hr : JA S ds es xs) (hs : ∀ env, starEach (e :: es) env = (false, eval e env) :: starEach es env := by intro _; rfl) : JA S ds (e :: es) (x :: xs) := by
  intro O σ H st Q k
  refine ta_mk (fun X h => pa_cons (pe_teOf h) (pa_taOf h) (hs _)) ?_
  refine ha O σ H st _ fun v H1 e1 r1 => hr O σ H1 (st.mono e1) _ fun vs H2 e2 r2 => ?_
  exact k _ H2 (e1.trans e2) (.cons (r1.mono (hide_same e2)) r2)
theorem ja_star (ha : JE S ds e x) (hx : IsSeq x xs) (hr : JA S ds es ys) (hs : ∀ env, starEach (.Starred e p :: es) env = (true, eval e env) :: starEach es env := by intro _; rfl) : JA S ds (.Starred e p :: es) (xs ++ ys) := by
  intro O σ H st Q k
  refine ta_mk (t := StX.tStar S.K (teOf S e) (taOf S es)) (fun X h => by rw [← h.K]; exact StX.pa_star (pe_teOf h) (pa_taOf h) (hs _)) ?_
  refine ha O σ H st _ fun v H1 e1 r1 => ?_
  obtain ⟨q, vs, rfl, rs, hq⟩ := r1.seq (K := S.K) hx
  refine ⟨q, vs, rfl, hq.symm, hr O σ H1 (st.mono e1) _ fun ws H2 e2 r2 => ?_⟩
  exact k _ H2 (e1.trans e2) ((rs.mono (hide_same e2)).append r2)
theorem le_line {n : Nat} (h : n ≤ 1000000) : n ≤ sizeLine := by rw [sizeLine_eq]; omega
theorem lt_line {n : Nat} (h : n ≤ 1000000) : n < sizeLine := by rw [sizeLine_eq]; omega
theorem je_tup {n : Nat} (h : JA S ds es xs) (hl : xs.length ≤ 1000000 := by decide) : JE S ds (.Tuple es n pos) (.tuple xs) := by
  intro O σ H st Q k
  refine te_mk (fun X h => pe_tup (pa_taOf h)) ?_
  refine h O σ H st _ fun vs H1 e1 r1 => ⟨le_line (by rw [r1.len]; exact hl), fun q hq => ?_⟩
  exact k _ _ (e1.trans (Same.upd_new hq)) (new_rpT (dom_mono st.dom e1) hq r1)
theorem je_lst (h : JA S ds es xs) (hl : xs.length ≤ 1000000 := by decide) : JE S ds (.List es pos) (.list xs) := by
  intro O σ H st Q k
  refine te_mk (fun X h => pe_lst (pa_taOf h)) ?_
  refine h O σ H st _ fun vs H1 e1 r1 => ⟨le_line (by rw [r1.len]; exact hl), fun q hq => ?_⟩
  exact k _ _ (e1.trans (Same.upd_new hq)) (new_rp (dom_mono st.dom e1) hq r1)
/-! ### calls -/
theorem gl_of {X : Cx} {x : Str} (h : S.Holds X) (hg : S.scope.names.lookup x = some .globalImplicit) : Gl X x := by
  show X.env.scope.names.lookup x = _
  rw [h.scope]
  exact hg
theorem je_callB {r : List V → Hp → VK → Prop} {id : String} {x : Str} (hc : ∀ X, S.Holds X → CallR X (.builtin id) r) (hm : S.mg x = none) (hv : bootBuiltins x = some (.builtin id)) (ha : JA S ds (e :: es) xs) (hr : RDC r xs z)
    (hg : S.scope.names.lookup x = some .globalImplicit := by rfl) (hn : x ≠ "__name__" := by decide) (hdb : (x == ("__debug__" : Str)) = false := by decide)
    (he : ∀ env, starEach (e :: es) env = (false, eval e env) :: starEach es env := by intro _; rfl) (hpl : ∀ env, (backTo pos (starEach es env)).any (·.1) = false := by intro _; rfl) : JE S ds (.Call (.Name x p) (e :: es) [] pos) z := by
  intro O σ H st Q k
  refine te_mk (fun X h => pe_callB (hc X h) (gl_of h hg) (h.mg ▸ hm) hv (pa_taOf h) hn hdb (he _) (hpl _)) ?_
  refine ha O σ H st _ fun vs H1 e1 r1 => ?_
  exact hr O H1 vs (dom_mono st.dom e1) r1 Q fun u H2 e2 r2 => k u H2 (e1.trans e2) r2
theorem je_callTy {r : List V → Hp → VK → Prop} {T : String} {x : Str} (hc : ∀ X, S.Holds X → CallR X (.type T) r) (hm : S.mg x = none) (hv : bootBuiltins x = some (.type T)) (ha : JA S ds (e :: es) xs) (hr : RDC r xs z)
    (hg : S.scope.names.lookup x = some .globalImplicit := by rfl) (hn : x ≠ "__name__" := by decide) (hdb : (x == ("__debug__" : Str)) = false := by decide)
    (he : ∀ env, starEach (e :: es) env = (false, eval e env) :: starEach es env := by intro _; rfl) (hpl : ∀ env, (backTo pos (starEach es env)).any (·.1) = false := by intro _; rfl) : JE S ds (.Call (.Name x p) (e :: es) [] pos) z := by
  intro O σ H st Q k
  refine te_mk (fun X h => pe_callTy (hc X h) (gl_of h hg) (h.mg ▸ hm) hv (pa_taOf h) hn hdb (he _) (hpl _)) ?_
  refine ha O σ H st _ fun vs H1 e1 r1 => ?_
  exact hr O H1 vs (dom_mono st.dom e1) r1 Q fun u H2 e2 r2 => k u H2 (e1.trans e2) r2
end
/-- a def's promise by data: of arguments with R args d it hands back d -/
def spP (R : List PyData → PyData → Prop) : Sp := fun vs H Q _ => ∃ (O : List Addr) (args : List PyData) (d : PyData), (∀ a ∈ O, H a ≠ none) ∧ RpAll (hide O H) vs args ∧ R args d ∧
  ∀ v H', Same H H' → Rp (hide O H') v d → Q v H'
/-- a def of the text that may be called: where it stands, what it promises -/
def Cal (P : Program) (w : World) (K : PySem.W.Frag) (mg : Str → Option Value) (base : Heap) (x : Str) (k : Nat) (sp : Sp) : Prop :=
  ∃ (f : Addr) (fd : FuncData) (ps : List Str), FnOk P w K mg base CX0 k f fd ps sp ∧ mg x = some (.ref f) ∧ PySem.W.keepIn K (.ref f) = true ∧ Binds K fd ps []
section
variable {S : SC} {ds : List Slot} {a b c e : Expr} {es ifs rest : List Expr} {x y z d : PyData} {xs ys : List PyData} {pos p : Pos} {i j : Int} {k l m : Bool}
theorem pe_cal {X : Cx} {x : Str} {n : Nat} {sp : Sp} {t : TA} (h : S.Holds X) (C : Cal S.prog S.w S.K S.mg S.base x n sp) (hn : n ≤ S.k) (hg : S.scope.names.lookup x = some .globalImplicit) (ha : PA X (e :: es) t) (hdb : (x == ("__debug__" : Str)) = false)
    (he : ∀ env, starEach (e :: es) env = (false, eval e env) :: starEach es env) (hpl : ∀ env, (backTo pos (starEach es env)).any (·.1) = false) : PE X (.Call (.Name x p) (e :: es) [] pos) (tCall sp [] E0 t) := by
  obtain ⟨f, fd, ps, F, hm, hk, hb⟩ := C
  rw [← h.prog, ← h.w, ← h.K, ← h.mg, ← h.base] at F
  exact pe_call F (h.room.mono hn) (gl_of h hg) (h.mg ▸ hm) (h.K ▸ hk) (h.K ▸ hb) .nil pass0 ha hdb (he _) (hpl _)
theorem je_call {x : Str} {n : Nat} {R : List PyData → PyData → Prop} (C : Cal S.prog S.w S.K S.mg S.base x n (spP R)) (hn : n ≤ S.k) (ha : JA S ds (e :: es) xs) (hR : R xs d)
    (hg : S.scope.names.lookup x = some .globalImplicit := by rfl) (hdb : (x == ("__debug__" : Str)) = false := by decide)
    (he : ∀ env, starEach (e :: es) env = (false, eval e env) :: starEach es env := by intro _; rfl) (hpl : ∀ env, (backTo pos (starEach es env)).any (·.1) = false := by intro _; rfl) : JE S ds (.Call (.Name x p) (e :: es) [] pos) d := by
  intro O σ H st Q k
  refine te_mk (fun X h => pe_cal h C hn hg (pa_taOf h) hdb he hpl) ?_
  refine ha O σ H st _ fun vs H1 e1 r1 => ?_
  refine ⟨O, xs, d, dom_mono st.dom e1, by rw [List.append_nil]; exact r1, hR, fun v H2 e2 r2 => k v H2 (e1.trans e2) r2⟩
/-! ### choices, and, or, not -/
theorem je_if (hc : JT S ds c k) (h1 : k = true → JE S ds a d) (h2 : k = false → JE S ds b d) : JE S ds (.IfExp c a b pos) d := by
  intro O σ H st Q kk
  refine te_mk (fun X h => pe_ifExp (pt_ttOf h) (pe_teOf h) (pe_teOf h)) ?_
  refine hc O σ H st _ fun H1 e1 => ?_
  cases k with
  | true => exact iteT (h1 rfl O σ H1 (st.mono e1) Q fun v H2 e2 r2 => kk v H2 (e1.trans e2) r2)
  | false => exact iteF (h2 rfl O σ H1 (st.mono e1) Q fun v H2 e2 r2 => kk v H2 (e1.trans e2) r2)
theorem je_one {op : BoolOp} (h : JE S ds a d) : JE S ds (.BoolOp op [a] pos) d := fun O σ H st Q k => te_mk (fun X h => pe_one (pe_teOf h)) (h O σ H st Q k)
theorem je_and (ha : JE S ds a (.bool k)) (hb : k = true → JE S ds (.BoolOp .And (b :: rest) pos) (.bool l)) : JE S ds (.BoolOp .And (a :: b :: rest) pos) (.bool (k && l)) := by
  intro O σ H st Q kk
  refine te_mk (fun X h => pe_and (pe_teOf h) (pe_teOf h)) ?_
  refine ha O σ H st _ fun v H1 e1 r1 => ?_
  cases r1
  refine ⟨k, rfl, ?_⟩
  cases k with
  | true => exact iteT (hb rfl O σ H1 (st.mono e1) Q fun v H2 e2 r2 => kk v H2 (e1.trans e2) r2)
  | false => exact iteF (kk _ H1 e1 (.bl _))
theorem je_or (ha : JE S ds a (.bool k)) (hb : k = false → JE S ds (.BoolOp .Or (b :: rest) pos) (.bool l)) : JE S ds (.BoolOp .Or (a :: b :: rest) pos) (.bool (k || l)) := by
  intro O σ H st Q kk
  refine te_mk (fun X h => pe_or (pe_teOf h) (pe_teOf h)) ?_
  refine ha O σ H st _ fun v H1 e1 r1 => ?_
  cases r1
  refine ⟨k, rfl, ?_⟩
  cases k with
  | false => exact iteF (hb rfl O σ H1 (st.mono e1) Q fun v H2 e2 r2 => kk v H2 (e1.trans e2) r2)
  | true => exact iteT (kk _ H1 e1 (.bl _))
theorem je_not (ha : JE S ds a (.bool k)) : JE S ds (.UnaryOp .Not a pos) (.bool (!k)) := by
  intro O σ H st Q kk
  refine te_mk (fun X h => pe_not (pe_teOf h)) ?_
  refine ha O σ H st _ fun v H1 e1 r1 => ?_
  cases r1
  exact ⟨k, rfl, kk _ H1 e1 (.bl _)⟩
theorem je_neg (ha : JE S ds a (.int i)) : JE S ds (.UnaryOp .USub a pos) (.int (-i)) := by
  intro O σ H st Q kk
  refine te_mk (fun X h => pe_un un_neg (pe_teOf h)) ?_
  refine ha O σ H st _ fun v H1 e1 r1 => ?_
  cases r1
  exact ⟨i, rfl, kk _ H1 e1 (.int _)⟩
/-- a test that is an expression of its own -/
theorem jt_val (h : JE S ds e (.bool k)) (he : ∀ env whole, isTrue e env whole = (do let v ← whole; standAt e.pos; holding [v] (truthy v)) := by intro _ _; rfl) : JT S ds e k := by
  intro O σ H st Q kk
  refine tt_mk (fun X h => pt_val (pe_teOf h) (he _)) ?_
  refine h O σ H st _ fun v H1 e1 r1 => ?_
  cases r1
  exact ⟨k, rfl, kk H1 e1⟩
theorem jt_not (h : JT S ds a k) : JT S ds (.UnaryOp .Not a pos) (!k) := fun O σ H st Q kk => tt_mk (fun X h => pt_not (pt_ttOf h)) (h O σ H st _ fun H1 e1 => kk H1 e1)
theorem jt_and2 (ha : JT S ds a k) (hb : k = true → JT S ds b l) : JT S ds (.BoolOp .And [a, b] pos) (k && l) := by
  intro O σ H st Q kk
  refine tt_mk (fun X h => PW.pt (pw_and (pt_ttOf h) (pw_and1 (pt_ttOf h)))) ?_
  refine ha O σ H st _ fun H1 e1 => ?_
  cases k with
  | true => exact iteT (hb rfl O σ H1 (st.mono e1) Q fun H2 e2 => kk H2 (e1.trans e2))
  | false => exact iteF (kk H1 e1)
theorem jt_or2 (ha : JT S ds a k) (hb : k = false → JT S ds b l) : JT S ds (.BoolOp .Or [a, b] pos) (k || l) := by
  intro O σ H st Q kk
  refine tt_mk (fun X h => PW.pt (pw_or (pt_ttOf h) (pw_or1 (pt_ttOf h)))) ?_
  refine ha O σ H st _ fun H1 e1 => ?_
  cases k with
  | false => exact iteF (hb rfl O σ H1 (st.mono e1) Q fun H2 e2 => kk H2 (e1.trans e2))
  | true => exact iteT (kk H1 e1)
theorem je_chain {op op' : CmpOp} {r r' : R2} (ho : ∀ X, S.Holds X → OpR X (compareOp op) r) (ho' : ∀ X, S.Holds X → OpR X (compareOp op') r') (ha : JE S ds a x) (hb : JE S ds b y) (hc : k = true → JE S ds c z)
    (hr : RD2 r x y (.bool k)) (hr' : k = true → RD2 r' y z (.bool l)) (h1 : behindInMarks op b = false := by rfl) (h2 : behindInMarks op' c = false := by rfl) : JE S ds (.Compare a [op, op'] [b, c] pos) (.bool (k && l)) := by
  intro O σ H st Q kk
  refine te_mk (fun X h => pe_chain (ho X h) (ho' X h) (pe_teOf h) (pe_teOf h) (pe_teOf h) (by with_unfolding_all exact h2)) ?_
  refine ha O σ H st _ fun v H1 e1 r1 => hb O σ H1 (st.mono e1) _ fun w H2 e2 r2 => ?_
  have e12 := e1.trans e2
  refine hr O H2 v w (dom_mono st.dom e12) (r1.mono (hide_same e2)) r2 _ fun u H3 e3 r3 => ?_
  cases r3
  refine ⟨k, rfl, ?_⟩
  cases k with
  | false => exact iteF (kk _ H3 (e12.trans e3) (.bl _))
  | true =>
    refine iteT (hc rfl O σ H3 (st.mono (e12.trans e3)) _ fun w' H4 e4 r4 => ?_)
    exact hr' rfl O H4 w w' (dom_mono st.dom ((e12.trans e3).trans e4)) (r2.mono (hide_same (e3.trans e4))) r4 Q fun u H5 e5 r5 => kk u H5 (((e12.trans e3).trans e4).trans e5) r5
/-! ### slices -/
def JO (S : SC) (ds : List Slot) (o : Option Expr) (r : Option Int) : Prop := match o, r with
  | none, r => r = none
  | some e, some i => JE S ds e (.int i)
  | some _, none => False
theorem po_JO {X : Cx} {o : Option Expr} (h : S.Holds X) : PO X o (match o with | none => tNoPart | some e => tPart (teOf S e)) := by
  cases o with
  | none => exact po_none
  | some e => exact po_some (pe_teOf h)
theorem to_JO {o : Option Expr} {r : Option Int} (h : JO S ds o r) {O : List Addr} {σ : L2.St} {H : Hp} (st : StOk S.fa O H σ ds) {Q : Option Int → Hp → Prop} (k : ∀ H', Same H H' → Q r H') :
    (match o with | none => tNoPart | some e => tPart (teOf S e)) σ H Q := by
  cases o with
  | none =>
    have h' : r = none := h
    subst h'
    exact k H (Same.refl H)
  | some e =>
    cases r with
    | none => exact False.elim h
    | some i =>
      refine h O σ H st _ fun v H1 e1 r1 => ?_
      cases r1
      exact ⟨i, rfl, k H1 e1⟩
/-- the items lo to hi of n -/
def cutD {α : Type} (xs : List α) (lo hi : Option Int) : List α := (xs.drop (HT.sIx xs.length 0 lo)).take (HT.sIx xs.length xs.length hi - HT.sIx xs.length 0 lo)
theorem RpAll.cut {H : Hp} {vs : List V} {ds : List PyData} (r : RpAll H vs ds) (lo hi : Option Int) : RpAll H (cutV vs lo hi) (cutD ds lo hi) := by
  unfold cutV cutD
  rw [r.len]
  exact (r.drop _).take _
theorem je_sliceT {lo hi : Option Expr} {l u : Option Int} {p2 : Pos} (he : JE S ds e (.tuple xs)) (hl : JO S ds lo l) (hu : JO S ds hi u) : JE S ds (.Subscript e (.Slice lo hi none p2) pos) (.tuple (cutD xs l u)) := by
  intro O σ H st Q k
  refine te_mk (t := tSl (rSlA S.K) (teOf S e) _ _) (fun X h => by rw [← h.K]; exact pe_slice sl_tupA (pe_teOf h) (po_JO h) (po_JO h)) ?_
  refine he O σ H st _ fun v H1 e1 r1 => ?_
  refine to_JO hl (st.mono e1) fun H2 e2 => to_JO hu (st.mono (e1.trans e2)) fun H3 e3 => ?_
  have e13 := (e1.trans e2).trans e3
  have r3 := r1.mono (hide_same (e2.trans e3))
  cases r3 with
  | @tup a vs _ h rs =>
    refine ⟨a, vs, rfl, SqT.of (hide_sub _ _ h), fun hw => ?_, fun _ q hq => ?_⟩
    · refine k _ H3 e13 ?_
      have ec : cutD xs l u = xs := by
        unfold cutD
        rw [← rs.len, hw.1, hw.2]
        simp [rs.len]
      rw [ec]
      exact .tup h rs
    · exact k _ _ (e13.trans (Same.upd_new hq)) (new_rpT (dom_mono st.dom e13) hq (rs.cut l u))
theorem je_sliceL {lo hi : Option Expr} {l u : Option Int} {p2 : Pos} (he : JE S ds e (.list xs)) (hl : JO S ds lo l) (hu : JO S ds hi u) : JE S ds (.Subscript e (.Slice lo hi none p2) pos) (.list (cutD xs l u)) := by
  intro O σ H st Q k
  refine te_mk (t := tSl (rSlL S.K) (teOf S e) _ _) (fun X h => by rw [← h.K]; exact pe_slice sl_list (pe_teOf h) (po_JO h) (po_JO h)) ?_
  refine he O σ H st _ fun v H1 e1 r1 => ?_
  refine to_JO hl (st.mono e1) fun H2 e2 => to_JO hu (st.mono (e1.trans e2)) fun H3 e3 => ?_
  have e13 := (e1.trans e2).trans e3
  have r3 := r1.mono (hide_same (e2.trans e3))
  cases r3 with
  | @lst a vs _ h rs =>
    refine ⟨a, vs, rfl, SqL.of (hide_sub _ _ h), fun q hq => ?_⟩
    exact k _ _ (e13.trans (Same.upd_new hq)) (new_rp (dom_mono st.dom e13) hq (rs.cut l u))
/-- xs[::-1] -/
theorem je_rev {n : Nat} {p1 p2 p3 : Pos} (he : JE S ds e (.list xs)) : JE S ds (.Subscript e (.Slice none none (some (.UnaryOp .USub (.Constant (.int 1) n p1) p2)) p3) pos) (.list xs.reverse) := by
  intro O σ H st Q k
  refine te_mk (t := tRevL S.K (teOf S e)) (fun X h => by rw [← h.K]; exact pe_revL (pe_teOf h)) ?_
  refine he O σ H st _ fun v H1 e1 r1 => ?_
  cases r1 with
  | @lst a vs _ h rs =>
    refine ⟨a, vs, rfl, SqL.of (hide_sub _ _ h), fun q hq => ?_⟩
    exact k _ _ (e1.trans (Same.upd_new hq)) (new_rp (dom_mono st.dom e1) hq rs.reverse)
end

/-! ### items by place -/
theorem rd_ixL {K : PySem.W.Frag} {xs : List PyData} {i : Int} {d : PyData} (h : atI xs i = some d) : RD2 (rIxL K) (.list xs) (.int i) d := fun O H v w dom r1 r2 Q k => by
  cases r2
  cases r1 with
  | @lst a vs _ hh rs =>
    unfold atI at h
    cases q : ixN xs.length i with
    | none => rw [q] at h; cases h
    | some j =>
      rw [q] at h
      obtain ⟨v, hv, rv⟩ := rs.get (show xs[j]? = some d from h)
      exact ⟨a, vs, i, v, rfl, rfl, SqL.of (hide_sub _ _ hh), by unfold atI; rw [rs.len, q]; exact hv, k v H (Same.refl H) rv⟩
theorem rd_ixT {K : PySem.W.Frag} {xs : List PyData} {i : Int} {d : PyData} (h : atI xs i = some d) : RD2 (rIxT K) (.tuple xs) (.int i) d := fun O H v w dom r1 r2 Q k => by
  cases r2
  cases r1 with
  | @tup a vs _ hh rs =>
    unfold atI at h
    cases q : ixN xs.length i with
    | none => rw [q] at h; cases h
    | some j =>
      rw [q] at h
      obtain ⟨v, hv, rv⟩ := rs.get (show xs[j]? = some d from h)
      exact ⟨a, vs, i, v, rfl, rfl, SqT.of (hide_sub _ _ hh), by unfold atI; rw [rs.len, q]; exact hv, k v H (Same.refl H) rv⟩
section
variable {S : SC} {ds : List Slot} {a b : Expr} {xs : List PyData} {d : PyData} {pos : Pos} {i : Int}
theorem je_ixL (ha : JE S ds a (.list xs)) (hb : JE S ds b (.int i)) (h : atI xs i = some d) (hs : PlainIx b := by intro _ _; rfl) : JE S ds (.Subscript a b pos) d :=
  je_ix (r := rIxL S.K) (fun X h => by rw [← h.K]; exact ix_list) hs ha hb (rd_ixL h)
theorem je_ixT (ha : JE S ds a (.tuple xs)) (hb : JE S ds b (.int i)) (h : atI xs i = some d) (hs : PlainIx b := by intro _ _; rfl) : JE S ds (.Subscript a b pos) d :=
  je_ix (r := rIxT S.K) (fun X h => by rw [← h.K]; exact ix_tup) hs ha hb (rd_ixT h)
end
end Sh


set_option Elab.async false
set_option linter.all false
set_option maxRecDepth 100000
set_option maxHeartbeats 40000000
set_option autoImplicit false
/-! J3: what is walked, comprehensions, by data -/
namespace Sh
open PySem PySem.Spec
      PyProof.Rows L2
def setAll (σ : L2.St) : List Nat → List V → L2.St
  | j :: js, v :: vs => setAll (σ.set j (some v)) js vs
  | _, _ => σ
def setD (ds : List Slot) : List Nat → List PyData → List Slot
  | j :: js, x :: xs => setD (ds.set j (.val x)) js xs
  | _, _ => ds
theorem StOk.setAll {fa : FA} {O : List Addr} {H : Hp} : ∀ {js : List Nat} {σ : L2.St} {ds : List Slot} {vs : List V} {xs : List PyData}, StOk fa O H σ ds → RpAll (hide O H) vs xs → StOk fa O H (setAll σ js vs) (setD ds js xs)
  | [], _, _, _, _, h, r => by cases r <;> exact h
  | j :: js, σ, ds, [], [], h, _ => h
  | j :: js, σ, ds, v :: vs, x :: xs, h, .cons r rs => StOk.setAll (js := js) (h.set r) rs
theorem wipe_get {σ : L2.St} {i : Nat} : ∀ {vs : List Nat}, i ∈ vs → i < σ.length → (wipe σ vs)[i]? = some none
  | v :: vs, h, hi => by
    unfold wipe
    by_cases e : v = i
    · subst e; rw [List.getElem?_set_self (by rw [wipe_length]; exact hi)]
    · rw [List.getElem?_set_ne e]
      rcases List.mem_cons.mp
            h with z | z
      · exact absurd z.symm e
      · exact wipe_get z hi
theorem wipe_out {σ : L2.St} {i : Nat} : ∀ {vs : List Nat}, i ∉ vs → (wipe σ vs)[i]? = σ[i]?
  | [], _ => rfl
  | v :: vs, h => by
    unfold wipe
    rw [List.getElem?_set_ne (fun e => h (by rw [e]; exact List.mem_cons_self))]
    exact wipe_out fun z => h (List.mem_cons_of_mem _ z)
theorem wipe_eq {σ τ : L2.St} {vs : List Nat} (hl : σ.length = τ.length) (h : ∀ i, i ∉ vs → σ[i]? = τ[i]?) : wipe σ vs = wipe τ vs := by
  apply List.ext_getElem?
  intro i
  by_cases hi : i ∈ vs
  · by_cases hb : i < σ.length
    · rw [wipe_get hi hb, wipe_get hi (by rw [← hl]; exact hb)]
    · rw [List.getElem?_eq_none (by rw [wipe_length]; omega), List.getElem?_eq_none (by rw [wipe_length]; omega)]
  · rw [wipe_out hi, wipe_out hi, h i hi]
theorem setAll_len : ∀ {js : List Nat} {σ : L2.St} {vs : List V}, (setAll σ js vs).length = σ.length
  | [], _, vs => by cases vs <;> rfl
  | j :: js, σ, [] => rfl
  | j :: js, σ, v :: vs => by
    show (setAll (σ.set j (some v)) js vs).length = _
    rw [setAll_len, List.length_set]
theorem setAll_out {i : Nat} : ∀ {js : List Nat} {σ : L2.St} {vs : List V}, i ∉ js → (setAll σ js vs)[i]? = σ[i]?
  | [], _, vs, _ => by cases vs <;> rfl
  | j :: js, σ, [], _ => rfl
  | j :: js, σ, v :: vs, h => by
    show (setAll (σ.set j (some v)) js vs)[i]? = _
    rw [setAll_out (fun z => h (List.mem_cons_of_mem _ z)), List.getElem?_set_ne (fun e => h (by rw [e]; exact List.mem_cons_self))]
theorem wipe_setAll {σ : L2.St} {js is : List Nat} {vs : List V} (h : ∀ j ∈ js, j ∈ is) : wipe (setAll (wipe σ is) js vs) is = wipe σ is :=
  wipe_eq (by rw [setAll_len, wipe_length]) fun i hi => by
    rw [setAll_out (fun z => hi (h i z)), wipe_out hi]

/-! ### what is walked: each turn's items by data -/
def JW (S : SC) {α : Type} (ds : List Slot) (tg iter : Expr) (g : TG) (js : List Nat) (items : List α) (row : α → List PyData) : Prop :=
  ∀ (O : List Addr) (σ : L2.St) (H : Hp), StOk S.fa O H σ ds → ∀ R : It → Hp → Prop,
    (∀ (J : It) (H1 : Hp) (G : Hp → Prop) (Y : Nat → Hp → V → Hp → Prop), Same H H1 → Walk J items.length G Y → (∀ H2, Same (hide O H1) (hide O H2) → G H2) →
      (∀ (i : Nat) (a : α) (H2 : Hp) (x : V) (H3 : Hp) (σ' : L2.St) (Q : L2.St → Hp → Prop), items[i]? = some a → G H2 → Y i H2 x H3 →
        (∀ vs, Same H2 H3 → RpAll (hide O H1) vs (row a) → Q (setAll σ' js vs) H3) → g x σ' H3 Q) → R J H1) →
    ∃ wi : TI, (∀ X, S.Holds X → PI X tg iter wi) ∧ wi σ H R
/-- lo, lo + 1, .. below hi -/
def rangeI (lo hi : Int) : List Int := (List.range (hi - lo).toNat).map fun k : Nat => lo + (k : Int)
theorem mem_rangeI {lo hi i : Int} : i ∈ rangeI lo hi ↔ lo ≤ i ∧ i < hi := by
  unfold rangeI
  rw [List.mem_map]
  constructor
  · rintro ⟨k, hk, rfl⟩
    have := List.mem_range.mp hk
    omega
  · rintro ⟨h1, h2⟩
    exact ⟨(i - lo).toNat, List.mem_range.mpr (by omega), by omega⟩
theorem len_rangeI {lo hi : Int} : (rangeI lo hi).length = (hi - lo).toNat := by unfold rangeI; rw [List.length_map, List.length_range]
/-- lo, lo - 1, .. above hi -/
def rangeD (lo hi : Int) : List Int := (List.range (lo - hi).toNat).map fun k : Nat => lo - (k : Int)
theorem mem_rangeD {lo hi i : Int} : i ∈ rangeD lo hi ↔ hi < i ∧ i ≤ lo := by
  unfold rangeD
  rw [List.mem_map]
  constructor
  · rintro ⟨k, hk, rfl⟩
    have := List.mem_range.mp hk
    omega
  · rintro ⟨h1, h2⟩
    exact ⟨(lo - i).toNat, List.mem_range.mpr (by omega), by omega⟩
theorem len_rangeD {lo hi : Int} : (rangeD lo hi).length = (lo - hi).toNat := by unfold rangeD; rw [List.length_map, List.length_range]

section
variable {S : SC} {α β : Type} {ds : List Slot} {tg src a b c elt iter : Expr} {enc : α → PyData} {enc2 : β → PyData} {items : List α} {ys : List β} {p pos : Pos} {j j1 j2 : Nat}
theorem jw_list (he : JE S ds src (lstE enc items)) : JW S ds tg src (gName j) [j] items (fun a => [enc a]) := by
  intro O σ H st R k
  refine ⟨iList S.K (teOf S src), fun X h => by rw [← h.K]; exact pi_list (pe_teOf h), ?_⟩
  refine he O σ H st _ fun v H1 e1 r1 => ?_
  cases r1 with
  | @lst q vs _ h rs =>
    have hl : vs.length = items.length := by rw [rs.len, List.length_map]
    refine ⟨q, rfl, ⟨vs, SqL.of (hide_sub _ _ h)⟩, k _ H1 (fun H => H q = some (.lst vs)) (YAt vs) e1 ?_ (fun H2 s => hide_sub _ _ (s _ _ h)) ?_⟩
    · rw [← hl]
      exact walk_list.mono (fun H h => SqL.of h) fun _ _ _ _ _ _ y => y
    · rintro i a H2 x H3 σ' Q hi hG ⟨rfl, hx⟩ kk
      obtain ⟨v, hv, rv⟩ := rs.get (i := i) (d := enc a) (by rw [List.getElem?_map, hi]; rfl)
      rw [hx] at hv
      cases hv
      exact kk [x] (Same.refl _) (.cons rv .nil)
theorem jw_tup (he : JE S ds src (tupE enc items)) : JW S ds tg src (gName j) [j] items (fun a => [enc a]) := by
  intro O σ H st R k
  refine ⟨iTup S.K (teOf S src), fun X h => by rw [← h.K]; exact pi_tup (pe_teOf h), ?_⟩
  refine he O σ H st _ fun v H1 e1 r1 => ?_
  cases r1 with
  | @tup q vs _ h rs =>
    have hl : vs.length = items.length := by rw [rs.len, List.length_map]
    refine ⟨q, rfl, ⟨vs, SqT.of (hide_sub _ _ h)⟩, k _ H1 (fun H => H q = some (.tup vs)) (YAt vs) e1 ?_ (fun H2 s => hide_sub _ _ (s _ _ h)) ?_⟩
    · rw [← hl]
      exact walk_tup.mono (fun H h => SqT.of h) fun _ _ _ _ _ _ y => y
    · rintro i a H2 x H3 σ' Q hi hG ⟨rfl, hx⟩ kk
      obtain ⟨v, hv, rv⟩ := rs.get (i := i) (d := enc a) (by rw [List.getElem?_map, hi]; rfl)
      rw [hx] at hv
      cases hv
      exact kk [x] (Same.refl _) (.cons rv .nil)
theorem jw_range1 {n : Int} (ha : JE S ds a (.int n)) (hm : S.mg ("range" : Str) = none) (hn : n ≤ 1000000) (hn0 : -1000000 ≤ n := by omega) (hg : S.scope.names.lookup ("range" : Str) = some .globalImplicit := by rfl)
    (he : ∀ env, starEach [a] env = (false, eval a env) :: starEach [] env := by intro _; rfl) : JW S ds tg (.Call (.Name "range" p) [a] [] pos) (gName j) [j] (rangeI 0 n) (fun i => [.int i]) := by
  intro O σ H st R k
  refine ⟨iRng1 (taOf S [a]), fun X h => pi_range1 (gl_of h hg) (h.mg ▸ hm) (pa_taOf h) (he _), ?_⟩
  refine ja_cons ha ja_nil he O σ H st _ fun vs H1 e1 r1 => ?_
  cases r1 with
  | cons r rr =>
    cases r; cases rr
    refine ⟨n, rfl, by omega, by omega, k _ H1 (fun _ => True) (YFn fun i => .int (0 + i)) e1 ?_ (fun _ _ => trivial) ?_⟩
    · rw [len_rangeI, show (n - 0).toNat = n.toNat by omega]
      exact walk_range
    · rintro i a H2 x H3 σ' Q hi _ ⟨rfl, hx⟩ kk
      unfold rangeI at hi
      rw [List.getElem?_map] at hi
      cases q : (List.range (n - 0).toNat)[i]? with
      | none => rw [q] at hi; cases hi
      | some m =>
        rw [q] at hi
        obtain ⟨h1, h2⟩ := List.getElem?_eq_some_iff.mp q
        rw [List.getElem_range] at h2
        subst h2
        cases hi
        subst hx
        exact kk [_] (Same.refl _) (.cons (.int _) .nil)
theorem jw_range2 {lo n : Int} (ha : JE S ds a (.int lo)) (hb : JE S ds b (.int n)) (hm : S.mg ("range" : Str) = none) (hn : -1000000 ≤ lo ∧ lo ≤ 1000000 ∧ -1000000 ≤ n ∧ n ≤ 1000000) (hg : S.scope.names.lookup ("range" : Str) = some .globalImplicit := by rfl)
    (he : ∀ env, starEach [a, b] env = (false, eval a env) :: starEach [b] env := by intro _; rfl) (he2 : ∀ env, starEach [b] env = (false, eval b env) :: starEach [] env := by intro _; rfl)
    (hpl : ∀ env, (backTo pos (starEach [b] env)).any (·.1) = false := by intro _; rfl) : JW S ds tg (.Call (.Name "range" p) [a, b] [] pos) (gName j) [j] (rangeI lo n) (fun i => [.int i]) := by
  intro O σ H st R k
  refine ⟨iRng2 (taOf S [a, b]), fun X h => pi_range2 (gl_of h hg) (h.mg ▸ hm) (pa_taOf h) (by rw [he, he2]; rfl) (by rw [he2]; rfl), ?_⟩
  refine ja_cons ha (ja_cons hb ja_nil he2) he O σ H st _ fun vs H1 e1 r1 => ?_
  cases r1 with
  | cons r rr =>
    cases rr with
    | cons r2 rr =>
      cases r; cases r2; cases rr
      refine ⟨lo, n, rfl, by omega, k _ H1 (fun _ => True) (YFn fun i => .int (lo + i)) e1 ?_ (fun _ _ => trivial) ?_⟩
      · rw [len_rangeI]
        exact walk_range
      · rintro i a H2 x H3 σ' Q hi _ ⟨rfl, hx⟩ kk
        unfold rangeI at hi
        rw [List.getElem?_map] at hi
        cases q : (List.range (n - lo).toNat)[i]? with
        | none => rw [q] at hi; cases hi
        | some m =>
          rw [q] at hi
          obtain ⟨h1, h2⟩ := List.getElem?_eq_some_iff.mp q
          rw [List.getElem_range] at h2
          subst h2
          cases hi
          subst hx
          exact kk [_] (Same.refl _) (.cons (.int _) .nil)
/-- a target of two names -/
def g2 (K : PySem.W.Frag) (j1 j2 : Nat) : TG := gTup K 2 (gCons (gName j1) (gCons (gName j2) gNil))
theorem g2_run {K : PySem.W.Frag} {T : Addr} {x y : V} {σ : L2.St} {H : Hp} {Q : L2.St → Hp → Prop} (h : SqT K H T [x, y]) (q : Q ((σ.set j1 (some x)).set j2 (some y)) H) : g2 K j1 j2 (.ref T) σ H Q :=
  ⟨T, [x, y], rfl, h, rfl, x, [y], rfl, y, [], rfl, rfl, q⟩
theorem pg_nameS {x : Str} (hN : S.N[j]? = some x := by rfl) (hx : Loc S.scope x := by first | exact Or.inl rfl | exact Or.inr rfl) (hf : S.fn x = true ∨ S.scope.names.lookup x = some .local := by first | exact Or.inr rfl | exact Or.inl rfl) :
    ∀ X, S.Holds X → PG X (.Name x pos) (gName j) := fun X h => pg_name (h.N ▸ h.nd) (h.N ▸ hN) (h.scope ▸ hx) (by rw [h.fn, h.scope]; exact hf)
theorem pg_twoS {x y : Str} {k : Nat} {p1 p2 : Pos} (hN : S.N[j1]? = some x := by rfl) (hx : Loc S.scope x := by first | exact Or.inl rfl | exact Or.inr rfl) (hf : S.fn x = true ∨ S.scope.names.lookup x = some .local := by first | exact Or.inr rfl | exact Or.inl rfl)
    (hN2 : S.N[j2]? = some y := by rfl) (hx2 : Loc S.scope y := by first | exact Or.inl rfl | exact Or.inr rfl) (hf2 : S.fn y = true ∨ S.scope.names.lookup y = some .local := by first | exact Or.inr rfl | exact Or.inl rfl) :
    ∀ X, S.Holds X → PG X (.Tuple [.Name x p1, .Name y p2] k pos) (g2 S.K j1 j2) := fun X h => by
  rw [← h.K]
  exact pg_tup h.calm (pgs_cons (pg_nameS hN hx hf X h) (pgs_cons (pg_nameS hN2 hx2 hf2 X h) pgs_nil))
theorem jw_zipT {elts : List Expr} {kk : Nat} {tpos : Pos} (ha : JE S ds a (tupE enc items)) (hb : JE S ds b (tupE enc2 ys)) (hm : S.mg ("zip" : Str) = none) (hg : S.scope.names.lookup ("zip" : Str) = some .globalImplicit := by rfl)
    (he : ∀ env, starEach [a, b] env = (false, eval a env) :: starEach [b] env := by intro _; rfl) (he2 : ∀ env, starEach [b] env = (false, eval b env) :: starEach [] env := by intro _; rfl)
    (hpl : ∀ env, (backTo pos (starEach [b] env)).any (·.1) = false := by intro _; rfl) :
    JW S ds (.Tuple elts kk tpos) (.Call (.Name "zip" p) [a, b] [] pos) (g2 S.K j1 j2) [j1, j2] (items.zip ys) (fun q => [enc q.1, enc2 q.2]) := by
  intro O σ H st R k
  refine ⟨RZ.iZipA S.K (taOf S [a, b]), fun X h => by rw [← h.K]; exact RZ.pi_zipA (gl_of h hg) (h.mg ▸ hm) (pa_taOf h) (he _) (hpl _), ?_⟩
  refine ja_cons ha (ja_cons hb ja_nil he2) he O σ H st _ fun vs H1 e1 r1 => ?_
  cases r1 with
  | cons r rr =>
    cases rr with
    | cons r2 rr =>
      cases rr
      cases r with
      | @tup q vs _ h rs =>
        cases r2 with
        | @tup q2 vs2 _ h2 rs2 =>
          have l1 : vs.length = items.length := by rw [rs.len, List.length_map]
          have l2 : vs2.length = ys.length := by rw [rs2.len, List.length_map]
          refine ⟨q, q2, vs, vs2, rfl, .inr ⟨SqT.of (hide_sub _ _ h), SqT.of (hide_sub _ _ h2), k _ H1 (fun H => H q = some (.tup vs) ∧ H q2 = some (.tup vs2)) (YPair (fun i => vs[i]?) (fun i => vs2[i]?)) e1 ?_
            (fun H2 s => ⟨hide_sub _ _ (s _ _ h), hide_sub _ _ (s _ _ h2)⟩) ?_⟩⟩
          · rw [List.length_zip, ← l1, ← l2]
            refine ⟨fun i H hi hq => ?_, fun H hq => ⟨vs, vs2, SqT.of hq.1, SqT.of hq.2, by omega⟩, fun i H v H' hi hq y => ?_⟩
            · have i1 : i < vs.length := by omega
              have i2 : i < vs2.length := by omega
              exact ⟨vs, vs2, vs[i], vs2[i], SqT.of hq.1, SqT.of hq.2, by simp [i1], by simp [i2]⟩
            · obtain ⟨T, x, z, y1, y2, y3, y4, y5⟩ := y
              exact ⟨T, x, z, y1, y2, y3, y4 vs (SqT.of hq.1), y5 vs2 (SqT.of hq.2)⟩
          · rintro i ⟨u, w⟩ H2 x H3 σ' Q hi hG ⟨T, x1, y1, rfl, hT, rfl, hx1, hy1⟩ kk2
            rw [List.getElem?_zip_eq_some] at hi
            obtain ⟨v, hv, rv⟩ := rs.get (i := i) (d := enc u) (by rw [List.getElem?_map, hi.1]; rfl)
            obtain ⟨v2, hv2, rv2⟩ := rs2.get (i := i) (d := enc2 w) (by rw [List.getElem?_map, hi.2]; rfl)
            have hv := (show vs[i]? = some x1 from hx1).symm.trans hv
            have hv2 := (show vs2[i]? = some y1 from hy1).symm.trans hv2
            cases hv; cases hv2
            exact g2_run (SqT.of upd_same) (kk2 [x1, y1] (Same.upd_new hT) (.cons rv (.cons rv2 .nil)))
theorem jw_zipL {elts : List Expr} {kk : Nat} {tpos : Pos} (ha : JE S ds a (lstE enc items)) (hb : JE S ds b (lstE enc2 ys)) (hm : S.mg ("zip" : Str) = none) (hg : S.scope.names.lookup ("zip" : Str) = some .globalImplicit := by rfl)
    (he : ∀ env, starEach [a, b] env = (false, eval a env) :: starEach [b] env := by intro _; rfl) (he2 : ∀ env, starEach [b] env = (false, eval b env) :: starEach [] env := by intro _; rfl)
    (hpl : ∀ env, (backTo pos (starEach [b] env)).any (·.1) = false := by intro _; rfl) :
    JW S ds (.Tuple elts kk tpos) (.Call (.Name "zip" p) [a, b] [] pos) (g2 S.K j1 j2) [j1, j2] (items.zip ys) (fun q => [enc q.1, enc2 q.2]) := by
  intro O σ H st R k
  refine ⟨RZ.iZipA S.K (taOf S [a, b]), fun X h => by rw [← h.K]; exact RZ.pi_zipA (gl_of h hg) (h.mg ▸ hm) (pa_taOf h) (he _) (hpl _), ?_⟩
  refine ja_cons ha (ja_cons hb ja_nil he2) he O σ H st _ fun vs H1 e1 r1 => ?_
  cases r1 with
  | cons r rr =>
    cases rr with
    | cons r2 rr =>
      cases rr
      cases r with
      | @lst q vs _ h rs =>
        cases r2 with
        | @lst q2 vs2 _ h2 rs2 =>
          have l1 : vs.length = items.length := by rw [rs.len, List.length_map]
          have l2 : vs2.length = ys.length := by rw [rs2.len, List.length_map]
          refine ⟨q, q2, vs, vs2, rfl, .inl ⟨SqL.of (hide_sub _ _ h), SqL.of (hide_sub _ _ h2), k _ H1 (fun H => H q = some (.lst vs) ∧ H q2 = some (.lst vs2)) (YPair (fun i => vs[i]?) (fun i => vs2[i]?)) e1 ?_
            (fun H2 s => ⟨hide_sub _ _ (s _ _ h), hide_sub _ _ (s _ _ h2)⟩) ?_⟩⟩
          · rw [List.length_zip, ← l1, ← l2]
            exact (walk_zip rfl).mono (fun H h => ⟨SqL.of h.1, SqL.of h.2⟩) fun _ _ _ _ _ _ y => y
          · rintro i ⟨u, w⟩ H2 x H3 σ' Q hi hG ⟨T, x1, y1, rfl, hT, rfl, hx1, hy1⟩ kk2
            rw [List.getElem?_zip_eq_some] at hi
            obtain ⟨v, hv, rv⟩ := rs.get (i := i) (d := enc u) (by rw [List.getElem?_map, hi.1]; rfl)
            obtain ⟨v2, hv2, rv2⟩ := rs2.get (i := i) (d := enc2 w) (by rw [List.getElem?_map, hi.2]; rfl)
            have hv := (show vs[i]? = some x1 from hx1).symm.trans hv
            have hv2 := (show vs2[i]? = some y1 from hy1).symm.trans hv2
            cases hv; cases hv2
            exact g2_run (SqT.of upd_same) (kk2 [x1, y1] (Same.upd_new hT) (.cons rv (.cons rv2 .nil)))
/-- the items with their places -/
def enumI (items : List α) : List (Int × α) := items.mapIdx fun i a => ((i : Int), a)
theorem enumI_get {items : List α} {i : Nat} : (enumI items)[i]? = items[i]?.map fun a => ((i : Int), a) := by unfold enumI; rw [List.getElem?_mapIdx]
theorem jw_enumL {elts : List Expr} {kk : Nat} {tpos : Pos} (ha : JE S ds a (lstE enc items)) (hm : S.mg ("enumerate" : Str) = none) (hg : S.scope.names.lookup ("enumerate" : Str) = some .globalImplicit := by rfl)
    (he : ∀ env, starEach [a] env = (false, eval a env) :: starEach [] env := by intro _; rfl) (he2 : ∀ env, starEach [a] env = [(false, eval a env)] := by intro _; rfl) :
    JW S ds (.Tuple elts kk tpos) (.Call (.Name "enumerate" p) [a] [] pos) (g2 S.K j1 j2) [j1, j2] (enumI items) (fun q => [.int q.1, enc q.2]) := by
  intro O σ H st R k
  refine ⟨iEnum S.K (taOf S [a]), fun X h => by rw [← h.K]; exact pi_enum (gl_of h hg) (h.mg ▸ hm) (pa_taOf h) (he2 _), ?_⟩
  refine ja_cons ha ja_nil he O σ H st _ fun vs H1 e1 r1 => ?_
  cases r1 with
  | cons r rr =>
    cases rr
    cases r with
    | @lst q vs _ h rs =>
      have l1 : vs.length = items.length := by rw [rs.len, List.length_map]
      refine ⟨q, vs, rfl, SqL.of (hide_sub _ _ h), k _ H1 (fun H => H q = some (.lst vs)) (YPair (fun i => some (.int (i : Nat))) (fun i => vs[i]?)) e1 ?_ (fun H2 s => hide_sub _ _ (s _ _ h)) ?_⟩
      · rw [show (enumI items).length = vs.length by unfold enumI; rw [List.length_mapIdx, l1]]
        exact walk_enum.mono (fun H h => SqL.of h) fun _ _ _ _ _ _ y => y
      · rintro i ⟨u, w⟩ H2 x H3 σ' Q hi hG ⟨T, x1, y1, rfl, hT, rfl, hx1, hy1⟩ kk2
        rw [enumI_get] at hi
        cases q2 : items[i]? with
        | none => rw [q2] at hi; cases hi
        | some a0 =>
          rw [q2] at hi
          cases hi
          obtain ⟨v, hv, rv⟩ := rs.get (i := i) (d := enc w) (by rw [List.getElem?_map, q2]; rfl)
          have hv := (show vs[i]? = some y1 from hy1).symm.trans hv
          cases hv
          cases hx1
          exact g2_run (SqT.of upd_same) (kk2 [_, y1] (Same.upd_new hT) (.cons (.int _) (.cons rv .nil)))

/-! ### comprehensions -/
theorem jc_nil : JC S ds [] true := fun O σ H st Q k => tc_mk (fun X h => pts_nil) (k H (Same.refl H))
theorem jc_one {b : Bool} (h : JT S ds c b) : JC S ds [c] b := fun O σ H st Q k => tc_mk (fun X h => pts_one (pt_ttOf h)) (h O σ H st Q k)
theorem lc_sem {scope : Scope} {own : List (Str × Nat)} {g : TG} {js : List Nat} {row : α → List PyData} {ifs : List Expr} {pr : α → Bool} {f : α → PyData} {O : List Addr} {σ : L2.St} {H : Hp} {Q : VK} {R : (It → Hp → Prop) → Prop}
    (hjs : ∀ j ∈ js, j ∈ own.map (·.2)) (hz : items.length ≤ 1000000)
    (ht : ∀ a ∈ items, JC (S.blk scope) (setD (wipeD ds (own.map (·.2))) js (row a)) ifs (pr a))
    (he : ∀ a ∈ items, pr a = true → JE (S.blk scope) (setD (wipeD ds (own.map (·.2))) js (row a)) elt (f a))
    (st : StOk S.fa O H σ ds) (k : ∀ v H', Same H H' → Rp (hide O H') v (.list ((items.filter pr).map f)) → Q v H')
    {J : It} {H1 : Hp} {G : Hp → Prop} {Y : Nat → Hp → V → Hp → Prop} (e1 : Same H H1) (wk : Walk J items.length G Y) (stab : ∀ H2, Same (hide O H1) (hide O H2) → G H2)
    (yl : ∀ (i : Nat) (a : α) (H2 : Hp) (x : V) (H3 : Hp) (σ' : L2.St) (Q : L2.St → Hp → Prop), items[i]? = some a → G H2 → Y i H2 x H3 → (∀ vs, Same H2 H3 → RpAll (hide O H1) vs (row a) → Q (setAll σ' js vs) H3) → g x σ' H3 Q) :
    ∀ D, H1 D = none → ∃ W : Nat → Nat → Hp → Prop, (∃ m, W 0 m (upd H1 D (.lst []))) ∧ ∀ i m H, W i m H →
      (J.stop i H ∧ Q (.ref D) H) ∨ (J.go i H ∧ ∃ Nx : Hp → Prop, (∀ H', Nx H' → ∃ m', m' < m ∧ W (i + 1) m' H') ∧ ∀ x H', J.yld i H x H' → g x (wipe σ (own.map (·.2))) H' fun σ2 H2 => wipe σ2 (own.map (·.2)) = wipe σ (own.map (·.2)) ∧ tcOf (S.blk scope) ifs σ2 H2 fun b H3 =>
        if b = true then teOf (S.blk scope) elt σ2 H3 fun y H4 => ∃ acc, H4 D = some (.lst acc) ∧ acc.length < sizeLine ∧ Nx (upd H4 D (.lst (acc ++ [y]))) else Nx H3) := by
  intro D hD
  have st1 := st.mono e1
  have hDO : D ∉ O := not_in_of_new st1.dom hD
  refine lc_it wk (fun i H2 => ∃ acc, H2 D = some (.lst acc) ∧ RpAll (hide (D :: O) H2) acc (((items.take i).filter pr).map f) ∧ Same H1 H2) ⟨[], upd_same, .nil, Same.upd_new hD⟩
    (fun i H2 _ ⟨_, _, _, s⟩ => stab H2 (hide_same s)) (fun i x H2 H3 hi p y => ?_) fun H2 p => ?_
  · obtain ⟨acc, ha, ra, s⟩ := p
    have hia : items[i]? = some items[i] := by simp [hi]
    refine yl i items[i] H2 x H3 _ _ hia (stab H2 (hide_same s)) y fun vs e23 rvs => ⟨wipe_setAll hjs, ?_⟩
    have s13 := s.trans e23
    have hD3 : H3 D = some (.lst acc) := e23 _ _ ha
    have stB : StOk (S.blk scope).fa (D :: O) H3 (setAll (wipe σ (own.map (·.2))) js vs) (setD (wipeD ds (own.map (·.2))) js (row items[i])) :=
      ((st1.hideMore hD s13 (by rw [hD3]; simp)).wiped _).setAll (rvs.mono ((hide_cons hD).trans (hide_same s13)))
    refine ht _ (List.mem_of_getElem? hia) _ _ _ stB _ fun H4 e34 => ?_
    have tk : items.take (i + 1) = items.take i ++ [items[i]] := by rw [List.take_succ, hia]; rfl
    cases hp : pr items[i] with
    | true =>
      refine iteT (he _ (List.mem_of_getElem? hia) hp _ _ _ (stB.mono e34) _ fun y H5 e45 r5 => ⟨acc, e45 _ _ (e34 _ _ hD3), lt_line ?_, acc ++ [y], upd_same, ?_, ?_⟩)
      · rw [ra.len, List.length_map]
        have l1 := List.length_filter_le pr (items.take i)
        have l2 : (items.take i).length ≤ items.length := by rw [List.length_take]; omega
        omega
      · rw [hide_upd List.mem_cons_self, tk, List.filter_append, List.map_append]
        refine (ra.mono (hide_same ((e23.trans e34).trans e45))).append ?_
        rw [List.filter_cons, if_pos hp]
        exact .cons r5 .nil
      · exact fun b o hb => by
          rw [upd_ne (ne_of_none hb hD)]
          exact ((s13.trans e34).trans e45) b o hb
    | false =>
      refine iteF ⟨acc, e34 _ _ hD3, ?_, s13.trans e34⟩
      rw [tk, List.filter_append, List.map_append, List.filter_cons, if_neg (by rw [hp]; decide)]
      show RpAll _ acc (_ ++ [])
      rw [List.append_nil]
      exact ra.mono (hide_same (e23.trans e34))
  · obtain ⟨acc, ha, ra, s⟩ := p
    refine k (.ref D) H2 (e1.trans s) (.lst (by rw [hide_out hDO]; exact ha) ?_)
    rw [List.take_length] at ra
    exact ra.mono hide_uncons
theorem je_lc {scope : Scope} {own : List (Str × Nat)} {g : TG} {js : List Nat} {row : α → List PyData} {ifs : List Expr} {pr : α → Bool} {f : α → PyData} (own_ : own = own) (hw : JW S ds tg iter g js items row) (hg : ∀ X, (S.blk scope).Holds X → PG X tg g)
    (ok : blkC S.N S.scope scope own = true) (hjs : ∀ j ∈ js, j ∈ own.map (·.2)) (hz : items.length ≤ 1000000)
    (ht : ∀ a ∈ items, JC (S.blk scope) (setD (wipeD ds (own.map (·.2))) js (row a)) ifs (pr a))
    (he : ∀ a ∈ items, pr a = true → JE (S.blk scope) (setD (wipeD ds (own.map (·.2))) js (row a)) elt (f a))
    (hs : ∀ env x, foldedSetIterable iter env x = pure x := by intro _ _; rfl) : JE S ds (.ListComp elt [⟨tg, iter, ifs, 0⟩] scope pos) (.list ((items.filter pr).map f)) := by
  intro O σ H st Q k
  obtain ⟨wi, hPI, hwi⟩ := hw O σ H st (fun J H1 => ∀ D, H1 D = none → ∃ W : Nat → Nat → Hp → Prop, (∃ m, W 0 m (upd H1 D (.lst []))) ∧ ∀ i m H, W i m H →
      (J.stop i H ∧ Q (.ref D) H) ∨ (J.go i H ∧ ∃ Nx : Hp → Prop, (∀ H', Nx H' → ∃ m', m' < m ∧ W (i + 1) m' H') ∧ ∀ x H', J.yld i H x H' → g x (wipe σ (own.map (·.2))) H' fun σ2 H2 => wipe σ2 (own.map (·.2)) = wipe σ (own.map (·.2)) ∧ tcOf (S.blk scope) ifs σ2 H2 fun b H3 =>
        if b = true then teOf (S.blk scope) elt σ2 H3 fun y H4 => ∃ acc, H4 D = some (.lst acc) ∧ acc.length < sizeLine ∧ Nx (upd H4 D (.lst (acc ++ [y]))) else Nx H3))
    (fun J H1 G Y e1 wk stab yl => lc_sem (R := fun _ => True) hjs hz ht he st k e1 wk stab yl)
  exact te_mk (t := tLc wi g (tcOf (S.blk scope) ifs) (teOf (S.blk scope) elt) (own.map (·.2))) (fun X h => pe_lc h.calm (h.N ▸ h.nd) (hPI X h) (blkOk_by (by rw [h.N, h.scope]; exact ok)) (fun s H C cl fp => hg _ (h.blk s H scope C cl fp))
    (fun s H C cl fp => pts_tcOf (h.blk s H scope C cl fp)) (fun s H C cl fp => pe_teOf (h.blk s H scope C cl fp)) (hs _)) hwi
end
end Sh


set_option Elab.async false
set_option linter.all false
set_option maxRecDepth 100000
set_option maxHeartbeats 40000000
set_option autoImplicit false
/-! J4: statements by data -/
namespace Sh
open PySem PySem.Spec
      PyProof.Rows L2
/-! ### the feed of draws -/
def feedKvs (c : Addr) (n l t : Int) : List (Key × V) := [(.inr "cells", .ref c), (.inr "next", .int n), (.inr "left", .int l), (.inr "turn", .int t)]
/-- at fa: the feed; its cells, what is left of a great one; the tables as they stand -/
def Feed (fa : FA) (O : List Addr) (H : Hp) : Prop :=
  (∃ (c : Addr) (cells : List Int) (n l t : Int), H fa.ad = some (.dK (feedKvs c n l t)) ∧ 0 ≤ n ∧ 0 ≤ l ∧ hide O H c = some (.lst (cells.map V.int)) ∧ cells.length ≤ 63 ∧ c = fa.ce) ∧ LamX.Tabs fa.T H
theorem Feed.mono {fa : FA} {O : List Addr} {H H' : Hp} (e : Same H H') (h : Feed fa O H) : Feed fa O H' := by
  obtain ⟨⟨c, cells, n, l, t, h1, h2, h3, h4, h5⟩, h6⟩ := h
  exact ⟨⟨c, cells, n, l, t, e _ _ h1, h2, h3, hide_same e _ _ h4, h5⟩, h6.ext e⟩
theorem Feed.sub {fa : FA} {O O' : List Addr} {H : Hp} (s : ∀ a ∈ O', a ∈ O) (h : Feed fa O H) : Feed fa O' H := by
  obtain ⟨⟨c, cells, n, l, t, h1, h2, h3, h4, h5⟩, h6⟩ := h
  exact ⟨⟨c, cells, n, l, t, h1, h2, h3, hide_mono s _ _ h4, h5⟩, h6⟩
theorem Feed.more {fa : FA} {l : Addr} {O : List Addr} {H H' : Hp} (hl : H l = none) (e : Same H H') (h : Feed fa O H) : Feed fa (l :: O) H' := by
  obtain ⟨⟨c, cells, n, l', t, h1, h2, h3, h4, h5⟩, h6⟩ := h
  exact ⟨⟨c, cells, n, l', t, e _ _ h1, h2, h3, hide_same e _ _ (hide_cons hl _ _ h4), h5⟩, h6.ext e⟩
theorem Feed.at_ {fa : FA} {O : List Addr} {H : Hp} (h : Feed fa O H) {a : Addr} (ha : a ∈ fa.all) : H a ≠ none ∧ ∀ vs, H a ≠ some (.lst vs) := by
  obtain ⟨⟨c, cells, n, l', t, h1, _⟩, h6⟩ := h
  rcases List.mem_cons.mp ha with z | z
  · rw [z, h1]
    exact ⟨by simp, fun vs q => by cases q⟩
  · obtain ⟨p, hp, rfl⟩ := List.mem_map.mp z
    obtain ⟨ps, e, _⟩ := h6 p hp
    rw [e]
    exact ⟨by simp, fun vs q => by cases q⟩
theorem Feed.notL {fa : FA} {l : Addr} {O : List Addr} {H : Hp} {vs : List V} (h : Feed fa O H) (q : H l = some (.lst vs)) : l ∉ fa.all := fun z => (h.at_ z).2 vs q
theorem Feed.notN {fa : FA} {l : Addr} {O : List Addr} {H : Hp} (h : Feed fa O H) (q : H l = none) : l ∉ fa.all := fun z => (h.at_ z).1 q
/-- a list that is not told changes -/
theorem Feed.upd {fa : FA} {l : Addr} {O : List Addr} {H : Hp} {vs ws : List V} (hl : l ∈ O) (hH : H l = some (.lst vs)) (h : Feed fa O H) : Feed fa O (upd H l (.lst ws)) := by
  have nl : ∀ a ∈ fa.all, a ≠ l := fun a ha z => (h.at_ ha).2 vs (z ▸ hH)
  obtain ⟨⟨c, cells, n, l', t, h1, h2, h3, h4, h5⟩, h6⟩ := h
  refine ⟨⟨c, cells, n, l', t, by rw [upd_ne (nl _ List.mem_cons_self)]; exact h1, h2, h3, by rw [hide_upd hl]; exact h4, h5⟩, fun p hp => ?_⟩
  obtain ⟨ps, e, tr, co⟩ := h6 p hp
  refine ⟨ps, by rw [upd_ne (nl _ (List.mem_cons_of_mem _ (List.mem_map.mpr ⟨p, hp, rfl⟩)))]; exact e, tr, fun pos cv hc => ?_⟩
  obtain ⟨c, e1, e2⟩ := co pos cv hc
  exact ⟨c, e1, by rw [upd_ne (fun z => by rw [z, hH] at e2; cases e2)]; exact e2⟩

/-! ### the situation between two statements -/
structure Sit (m : Bool) (fa : FA) (Oe : List Addr) (Fz : Hp) (O : List Addr) (H : Hp) (σ : L2.St) (ds : List Slot) : Prop where
  sub : ∀ a ∈ Oe, a ∈ O
  ext : Same Fz H
  own : ∀ (i : Nat) (xs : List PyData) (l : Addr), ds[i]? = some (.own xs) → σ[i]? = some (some (.ref l)) → l ∉ Oe
  new : ∀ l ∈ O, l ∉ Oe → Fz l = none
  st : StOk fa O H σ ds
  fd : m = true → (∀ a ∈ fa.all, a ∈ Oe) ∧ Feed fa O H ∧ ∀ a ∈ fa.all, Fz a = none
structure DEnds where
  nx : List Slot → Prop
  rt : PyData → Prop
  bk : List Slot → Prop := fun _ => False
  ct : List Slot → Prop := fun _ => False
  xs : Value → Str → PyData → Prop := fun _ _ _ => False
structure EndsOk (m : Bool) (fa : FA) (W : WX) (Oe : List Addr) (Fz : Hp) (D : DEnds) (E : Ends) : Prop where
  nx : ∀ O H σ ds, Sit m fa Oe Fz O H σ ds → D.nx ds → E.nx σ H
  rt : ∀ v d H, Same Fz H → (m = true → Feed fa Oe H) → Rp (hide Oe H) v d → D.rt d → E.rt v H
  bk : ∀ O H σ ds, Sit m fa Oe Fz O H σ ds → D.bk ds → E.bk σ H
  ct : ∀ O H σ ds, Sit m fa Oe Fz O H σ ds → D.ct ds → E.ct σ H
  xs : ∀ (σ : L2.St) (c : Value) (f : Str) (v : V) (d : PyData) (dx : Addr) (H : Hp), Same Fz H → (m = true → Feed fa Oe H) → Rp (hide Oe H) v d → H dx = some (.xd [(f, v)]) → D.xs c f d → W c (some dx) σ H
def JS (S : SC) (m : Bool) (sts : List Stmt) (ds : List Slot) (D : DEnds) : Prop :=
  ∀ (Oe : List Addr) (Fz : Hp) (O : List Addr) (H : Hp) (σ : L2.St), Sit m S.fa Oe Fz O H σ ds → ∀ E : Ends, EndsOk m S.fa S.W Oe Fz D E → tsOf S sts E σ H
section
variable {m : Bool} {fa : FA} {Oe O : List Addr} {Fz H H' : Hp} {σ : L2.St} {ds : List Slot} {v : V} {d : PyData} {i : Nat} {D : DEnds} {E : Ends}
theorem Sit.mono (s : Sit m fa Oe Fz O H σ ds) (e : Same H H') : Sit m fa Oe Fz O H' σ ds :=
  ⟨s.sub, s.ext.trans e, s.own, s.new, s.st.mono e, fun hm => let ⟨a, b, c⟩ := s.fd hm; ⟨a, b.mono e, c⟩⟩
theorem Sit.set (s : Sit m fa Oe Fz O H σ ds) (r : Rp (hide O H) v d) : Sit m fa Oe Fz O H (σ.set i (some v)) (ds.set i (.val d)) := by
  refine ⟨s.sub, s.ext, fun j xs l q1 q2 => ?_, s.new, s.st.set r, s.fd⟩
  by_cases hj : i = j
  · subst hj
    have hi : i < ds.length := by
      have := (List.getElem?_eq_some_iff.mp q1).1
      rwa [List.length_set] at this
    rw [List.getElem?_set_self hi] at q1
    cases q1
  · rw [List.getElem?_set_ne hj] at q1 q2
    exact s.own j xs l q1 q2
theorem Sit.setAll : ∀ {js : List Nat} {σ : L2.St} {ds : List Slot} {vs : List V} {xs : List PyData}, Sit m fa Oe Fz O H σ ds → RpAll (hide O H) vs xs → Sit m fa Oe Fz O H (setAll σ js vs) (setD ds js xs)
  | [], _, _, _, _, h, r => by cases r <;> exact h
  | j :: js, σ, ds, [], [], h, _ => h
  | j :: js, σ, ds, v :: vs, x :: xs, h, .cons r rs => Sit.setAll (js := js) (h.set r) rs
/-- a new list, still to be written -/
theorem Sit.newOwn {p : Addr} {vs : List V} {xs : List PyData} (s : Sit m fa Oe Fz O H σ ds) (hp : H p = none) (e : Same H H') (h : H' p = some (.lst vs)) (r : RpAll (hide (p :: O) H') vs xs) :
    Sit m fa Oe Fz (p :: O) H' (σ.set i (some (.ref p))) (ds.set i (.own xs)) := by
  have pO : p ∉ O := not_in_of_new s.st.dom hp
  have pF : Fz p = none := by
    cases q : Fz p with
    | none => rfl
    | some o => rw [s.ext p o q] at hp; cases hp
  have st2 := s.st.hideMore hp e (by rw [h]; simp)
  have inv : ∀ {j : Nat} {zs : List PyData}, (ds.set i (.own xs))[j]? = some (.own zs) → i = j ∨ (i ≠ j ∧ ds[j]? = some (.own zs)) := fun {j zs} q => by
    by_cases hj : i = j
    · exact .inl hj
    · rw [List.getElem?_set_ne hj] at q
      exact .inr ⟨hj, q⟩
  have lt_of : ∀ {s : Slot}, (ds.set i (.own xs))[i]? = some s → i < ds.length := fun {s} q => by
    have := (List.getElem?_eq_some_iff.mp q).1
    rwa [List.length_set] at this
  have neP : ∀ {j : Nat} {zs : List PyData} {l : Addr}, ds[j]? = some (.own zs) → σ[j]? = some (some (.ref l)) → l ≠ p := fun {j zs l} q1 q2 z => by
    obtain ⟨x, e1, l2, ws, e2, h2, h3, _⟩ := s.st.sl j _ q1
    rw [q2] at e1
    cases e1
    cases e2
    rw [z, hp] at h3
    cases h3
  refine ⟨fun a ha => List.mem_cons_of_mem _ (s.sub a ha), s.ext.trans e, fun j zs l q1 q2 => ?_, fun l hl hE => (List.mem_cons.mp hl).elim (fun z => by rw [z]; exact pF) (fun z => s.new l z hE), ⟨by rw [List.length_set, List.length_set, s.st.len], fun j sl q => ?_, fun j k as bs l q1 q2 hjk e1 => ?_, st2.dom⟩, fun hm => let ⟨a, b, c⟩ := s.fd hm; ⟨a, b.more hp e, c⟩⟩
  · rcases inv q1 with hj | ⟨hj, q1⟩
    · subst hj
      rw [List.getElem?_set_self (by rw [s.st.len]; exact lt_of q1)] at q2
      cases q2
      exact fun z => pO (s.sub _ z)
    · rw [List.getElem?_set_ne hj] at q2
      exact s.own j zs l q1 q2
  · by_cases hj : i = j
    · subst hj
      have hi := lt_of q
      rw [List.getElem?_set_self hi] at q
      cases q
      exact ⟨some (.ref p), List.getElem?_set_self (by rw [s.st.len]; exact hi), p, vs, rfl, List.mem_cons_self, h, r⟩
    · rw [List.getElem?_set_ne hj] at q
      rw [List.getElem?_set_ne hj]
      exact st2.sl j sl q
  · rcases inv q1 with hj | ⟨hj, q1'⟩
    · subst hj
      rw [List.getElem?_set_self (by rw [s.st.len]; exact lt_of q1)] at e1
      cases e1
      rcases inv q2 with hk | ⟨hk, q2'⟩
      · exact absurd hk hjk
      · rw [List.getElem?_set_ne hk]
        exact fun z => neP q2' z rfl
    · rw [List.getElem?_set_ne hj] at e1
      rcases inv q2 with hk | ⟨hk, q2'⟩
      · subst hk
        rw [List.getElem?_set_self (by rw [s.st.len]; exact lt_of q2)]
        intro z
        have z' := Option.some.inj (Option.some.inj z)
        cases z'
        exact neP q1' e1 rfl
      · rw [List.getElem?_set_ne hk]
        exact s.st.ap j k as bs l q1' q2' hjk e1
/-- the list in a slot is written -/
theorem Sit.write {l : Addr} {vs ws : List V} {xs ys : List PyData} (s : Sit m fa Oe Fz O H σ ds) (hi : ds[i]? = some (.own xs)) (hl : σ[i]? = some (some (.ref l))) (hH : H l = some (.lst vs)) (r : RpAll (hide O H) ws ys) :
    Sit m fa Oe Fz O (upd H l (.lst ws)) σ (ds.set i (.own ys)) := by
  obtain ⟨x, e1, l2, us, e2, lO, h3, _⟩ := s.st.sl i _ hi
  rw [hl] at e1
  cases e1
  cases e2
  have lE := s.own i xs l hi hl
  have fz := s.new l lO lE
  have hib : i < ds.length := (List.getElem?_eq_some_iff.mp hi).1
  have old : ∀ {j : Nat} {zs : List PyData}, (ds.set i (.own ys))[j]? = some (.own zs) → ∃ us, ds[j]? = some (.own us) := fun {j zs} q => by
    by_cases hj : i = j
    · subst hj; exact ⟨xs, hi⟩
    · rw [List.getElem?_set_ne hj] at q
      exact ⟨zs, q⟩
  refine ⟨s.sub, fun a o h => ?_, fun j zs l' q1 q2 => ?_, s.new, ⟨by rw [List.length_set, s.st.len], fun j sl q => ?_, fun j k as bs l' q1 q2 hjk => ?_, fun a ha => ?_⟩, fun hm => let ⟨a, b, c⟩ := s.fd hm; ⟨a, b.upd lO hH, c⟩⟩
  · have : a ≠ l := fun z => by rw [z, fz] at h; cases h
    rw [upd_ne this]
    exact s.ext a o h
  · obtain ⟨us, q⟩ := old q1
    exact s.own j us l' q q2
  · by_cases hj : i = j
    · subst hj
      rw [List.getElem?_set_self hib] at q
      cases q
      exact ⟨_, hl, l, ws, rfl, lO, upd_same, by rw [hide_upd lO]; exact r⟩
    · rw [List.getElem?_set_ne hj] at q
      obtain ⟨x, e1, e2⟩ := s.st.sl j sl q
      refine ⟨x, e1, ?_⟩
      cases sl with
      | unk => trivial
      | val d => obtain ⟨v, h1, h2⟩ := e2; exact ⟨v, h1, by rw [hide_upd lO]; exact h2⟩
      | own zs =>
        obtain ⟨l', us, h1, h2, h3, h4⟩ := e2
        subst h1
        have ne : l' ≠ l := fun z => s.st.ap i j xs zs l hi q hj hl (z ▸ e1)
        exact ⟨l', us, rfl, h2, by rw [upd_ne ne]; exact h3, by rw [hide_upd lO]; exact h4⟩
      | fd => exact e2
      | dct kvs => obtain ⟨q, q1, q2⟩ := e2; exact ⟨q, q1, by rw [hide_upd lO]; exact q2⟩
      | dkv kvs => obtain ⟨q, ws, q1, q2, q3, q4⟩ := e2; exact ⟨q, ws, q1, by rw [hide_upd lO]; exact q2, q3, by rw [hide_upd lO]; exact q4⟩
  · obtain ⟨u1, q1⟩ := old q1
    obtain ⟨u2, q2⟩ := old q2
    exact s.st.ap j k u1 u2 l' q1 q2 hjk
  · by_cases ha2 : a = l
    · rw [ha2, upd_same]; simp
    · rw [upd_ne ha2]; exact s.st.dom a ha
/-- from now on the list in a slot is read alone -/
theorem Sit.freeze {xs : List PyData} (s : Sit m fa Oe Fz O H σ ds) (hi : ds[i]? = some (.own xs)) : ∃ O', Sit m fa Oe Fz O' H σ (ds.set i (.val (.list xs))) := by
  obtain ⟨x, e1, l, us, e2, lO, h3, r3⟩ := s.st.sl i _ hi
  subst e2
  have lE := s.own i xs l hi e1
  have hib : i < ds.length := (List.getElem?_eq_some_iff.mp hi).1
  have sub' : ∀ a ∈ O.filter (fun a => decide (a ≠ l)), a ∈ O := fun a ha => (List.mem_filter.mp ha).1
  have em : Same (hide O H) (hide (O.filter (fun a => decide (a ≠ l))) H) := hide_mono sub'
  have no : ∀ {j : Nat} {zs : List PyData}, (ds.set i (.val (.list xs)))[j]? = some (.own zs) → i ≠ j ∧ ds[j]? = some (.own zs) := fun {j zs} q => by
    by_cases hj : i = j
    · subst hj
      rw [List.getElem?_set_self hib] at q
      cases q
    · rw [List.getElem?_set_ne hj] at q
      exact ⟨hj, q⟩
  refine ⟨O.filter (fun a => decide (a ≠ l)), fun a ha => List.mem_filter.mpr ⟨s.sub a ha, by simp only [decide_eq_true_eq]; intro z; rw [z] at ha; exact lE ha⟩, s.ext, fun j zs l' q1 q2 => ?_, fun b hb hE => s.new b (sub' b hb) hE, ⟨by rw [List.length_set, s.st.len], fun j sl q => ?_, fun j k as bs l' q1 q2 hjk => ?_, fun a ha => s.st.dom a (sub' a ha)⟩,
    fun hm => let ⟨a, b, c⟩ := s.fd hm; ⟨a, b.sub sub', c⟩⟩
  · exact s.own j zs l' (no q1).2 q2
  · by_cases hj : i = j
    · subst hj
      rw [List.getElem?_set_self hib] at q
      cases q
      exact ⟨_, e1, _, rfl, .lst (by rw [hide_out (by simp)]; exact h3) (r3.mono em)⟩
    · rw [List.getElem?_set_ne hj] at q
      obtain ⟨x, f1, f2⟩ := s.st.sl j sl q
      refine ⟨x, f1, ?_⟩
      cases sl with
      | unk => trivial
      | val d => obtain ⟨v, h1, h2⟩ := f2; exact ⟨v, h1, h2.mono em⟩
      | own zs =>
        obtain ⟨l', us', h1, h2, h3, h4⟩ := f2
        subst h1
        have ne : l' ≠ l := fun z => s.st.ap i j xs zs l hi q hj e1 (z ▸ f1)
        exact ⟨l', us', rfl, List.mem_filter.mpr ⟨h2, by simpa using ne⟩, h3, h4.mono em⟩
      | fd => exact f2
      | dct kvs => obtain ⟨q, q1, q2⟩ := f2; exact ⟨q, q1, em _ _ q2⟩
      | dkv kvs => obtain ⟨q, ws, q1, q2, q3, q4⟩ := f2; exact ⟨q, ws, q1, em _ _ q2, q3, q4.mono em⟩
  · exact s.st.ap j k as bs l' (no q1).2 (no q2).2 hjk
theorem Sit.forget (s : Sit m fa Oe Fz O H σ ds) : Sit m fa Oe Fz O H σ (ds.set i .unk) := by
  refine ⟨s.sub, s.ext, fun j xs l q1 q2 => ?_, s.new, s.st.drop, s.fd⟩
  by_cases hj : i = j
  · subst hj
    have hi : i < ds.length := by
      have := (List.getElem?_eq_some_iff.mp q1).1
      rwa [List.length_set] at this
    rw [List.getElem?_set_self hi] at q1
    cases q1
  · rw [List.getElem?_set_ne hj] at q1
    exact s.own j xs l q1 q2
end
/-- a new list -/
def JN (S : SC) (ds : List Slot) (e : Expr) (xs : List PyData) : Prop :=
  ∀ (O : List Addr) (σ : L2.St) (H : Hp), StOk S.fa O H σ ds → ∀ Q : VK, (∀ p vs H', H p = none → Same H H' → H' p = some (.lst vs) → RpAll (hide (p :: O) H') vs xs → Q (.ref p) H') → teOf S e σ H Q

section
variable {S : SC} {m : Bool} {ds : List Slot} {a b c e : Expr} {es : List Expr} {rest B1 B2 : List Stmt} {x y z d : PyData} {xs ys : List PyData} {pos p p' p1 p2 pt : Pos} {D : DEnds} {M : List Slot → Prop} {i j n : Nat} {k : Bool} {t u : Str}
theorem js_nil (h : D.nx ds) : JS S m [] ds D := fun Oe Fz O H σ s E he => ts_mk (fun X _ => pss_nil) (he.nx O H σ ds s h)
/-- a statement, then the rest -/
theorem ts_cons {st : Stmt} {ts : TS} {E : Ends} {σ : L2.St} {H : Hp} (h : ∀ X, S.Holds X → PS X st ts) (q : ts { E with nx := tsOf S rest E } σ H) : tsOf S (st :: rest) E σ H :=
  ts_mk (t := tSeq ts (tsOf S rest)) (fun X hX => pss_cons (h X hX) (pss_tsOf hX)) q
theorem js_asg (he : JE S ds e d) (k : JS S m rest (ds.set i (.val d)) D) (hN : S.N[i]? = some t := by rfl) (hx : Loc S.scope t := by first | exact Or.inl rfl | exact Or.inr rfl) (hf : S.fn t = true ∨ S.scope.names.lookup t = some .local := by first | exact Or.inl rfl | exact Or.inr rfl)
    (hs : ∀ env : Env, env.scope = S.scope → swapsWith e (some (.Name t p')) pos.line env = pure false := by intro _ _; rfl) : JS S m (.Assign [.Name t p'] e pos :: rest) ds D := by
  intro Oe Fz O H σ s E hE
  refine ts_cons (fun X h => ps_set (h.N ▸ h.nd) (h.N ▸ hN) (h.scope ▸ hx) (pe_teOf h) (hs _ h.scope) (by rw [h.fn, h.scope]; exact hf)) ?_
  refine he O σ H s.st _ fun v H1 e1 r1 => ?_
  exact k Oe Fz O H1 _ ((s.mono e1).set r1) E hE
theorem swap_cell {elt : Expr} {gs : List Comprehension} {scope : Scope} {pos py : Pos} {l : Nat} {env : Env} (hy : env.scope.names.lookup t = some .cell) : swapsWith (.ListComp elt gs scope pos) (some (.Name t py)) l env = pure false := by
  have ky : env.kindOf t = some .cell := hy
  unfold swapsWith
  simp only [ky]
  have e : (some NameKind.cell == some NameKind.local) = false := by decide
  simp [e]
theorem js_asgLc {α : Type} {elt tg iter : Expr} {items : List α} {scope : Scope} {own : List (Str × Nat)} {g : TG} {js : List Nat} {row : α → List PyData} {ifs : List Expr} {pr : α → Bool} {f : α → PyData} {lp : Pos} (own_ : own = own) (hw : JW S ds tg iter g js items row) (hg : ∀ X, (S.blk scope).Holds X → PG X tg g)
    (ok : blkC S.N S.scope scope own = true) (hjs : ∀ j ∈ js, j ∈ own.map (·.2)) (hz : items.length ≤ 1000000)
    (ht : ∀ a ∈ items, JC (S.blk scope) (setD (wipeD ds (own.map (·.2))) js (row a)) ifs (pr a))
    (he : ∀ a ∈ items, pr a = true → JE (S.blk scope) (setD (wipeD ds (own.map (·.2))) js (row a)) elt (f a))
    (k : JS S m rest (ds.set i (.val (.list ((items.filter pr).map f)))) D)
    (hN : S.N[i]? = some t := by rfl) (hyl : S.scope.names.lookup t = some .local := by rfl) (hk : S.scope.kind = .function := by rfl) (hl : (p'.line == lp.line) = true := by rfl)
    (ha : (scope.names.any fun (n, k) => n == t && (k == .local || k == .cell)) = false := by rfl)
    (hs : ∀ env x, foldedSetIterable iter env x = pure x := by intro _ _; rfl) : JS S m (.Assign [.Name t p'] (.ListComp elt [⟨tg, iter, ifs, 0⟩] scope lp) pos :: rest) ds D := by
  intro Oe Fz O H σ s E hE
  obtain ⟨wi, hPI, hwi⟩ := hw O σ H s.st (fun J H1 => ∀ D, H1 D = none → ∃ W : Nat → Nat → Hp → Prop, (∃ m, W 0 m (upd H1 D (.lst []))) ∧ ∀ i' m H, W i' m H →
      (J.stop i' H ∧ (fun v H' => tsOf S rest E (σ.set i (some v)) H') (.ref D) H) ∨ (J.go i' H ∧ ∃ Nx : Hp → Prop, (∀ H', Nx H' → ∃ m', m' < m ∧ W (i' + 1) m' H') ∧ ∀ x H', J.yld i' H x H' → g x (wipe σ (own.map (·.2))) H' fun σ2 H2 => wipe σ2 (own.map (·.2)) = wipe σ (own.map (·.2)) ∧ tcOf (S.blk scope) ifs σ2 H2 fun b H3 =>
        if b = true then teOf (S.blk scope) elt σ2 H3 fun y H4 => ∃ acc, H4 D = some (.lst acc) ∧ acc.length < sizeLine ∧ Nx (upd H4 D (.lst (acc ++ [y]))) else Nx H3))
    (fun J H1 G Y e1 wk stab yl => lc_sem (R := fun _ => True) hjs hz ht he s.st (fun v H' e r => k Oe Fz O H' _ ((s.mono e).set r) E hE) e1 wk stab yl)
  exact ts_cons (ts := tAsg (tLc wi g (tcOf (S.blk scope) ifs) (teOf (S.blk scope) elt) (own.map (·.2))) (gName i)) (fun X h => ps_setLc h.calm (h.N ▸ h.nd) (h.N ▸ hN) (by rw [h.scope]; exact hyl) (sw_true (by rw [h.scope]; exact hk) (by rw [h.scope]; exact hyl) hl ha) (hPI X h)
    (blkOk_by (by rw [h.N, h.scope]; exact ok)) (fun s H C cl fp => hg _ (h.blk s H scope C cl fp)) (fun s H C cl fp => pts_tcOf (h.blk s H scope C cl fp)) (fun s H C cl fp => pe_teOf (h.blk s H scope C cl fp)) (hs _)) hwi
theorem js_expr (he : JE S ds e d) (k : JS S m rest ds D) (hs : ∀ env : Env, swapsWith e none pos.line env = pure false := by intro _; rfl) : JS S m (.Expr e pos :: rest) ds D := by
  intro Oe Fz O H σ s E hE
  refine ts_cons (fun X h => ps_expr (pe_teOf h) (hs _)) ?_
  exact he O σ H s.st _ fun v H1 e1 r1 => k Oe Fz O H1 _ (s.mono e1) E hE
theorem js_ret (he : JE S ds e d) (k : D.rt d) : JS S m (.Return (some e) pos :: rest) ds D := by
  intro Oe Fz O H σ s E hE
  refine ts_cons (ts := tRet (teOf S e)) (fun X h => ps_ret (pe_teOf h)) ?_
  refine he O σ H s.st _ fun v H1 e1 r1 => ?_
  exact hE.rt v d H1 (s.ext.trans e1) (fun hm => ((s.fd hm).2.1.mono e1).sub s.sub) (r1.mono (hide_mono s.sub)) k
theorem js_if (hc : JT S ds c k) (h1 : k = true → JS S m B1 ds { D with nx := M }) (h2 : k = false → JS S m B2 ds { D with nx := M }) (hr : ∀ ds', M ds' → JS S m rest ds' D) : JS S m (.If c B1 B2 pos :: rest) ds D := by
  intro Oe Fz O H σ s E hE
  refine ts_cons (fun X h => ps_if (pt_ttOf h) (pss_tsOf h) (pss_tsOf h)) ?_
  refine hc O σ H s.st _ fun H1 e1 => ?_
  have hE2 : EndsOk m S.fa S.W Oe Fz { D with nx := M } { E with nx := tsOf S rest E } := ⟨fun O H σ ds' s' hM => hr ds' hM Oe Fz O H σ s' E hE, hE.rt, hE.bk, hE.ct, hE.xs⟩
  cases k with
  | true => exact iteT (h1 rfl Oe Fz O H1 σ (s.mono e1) _ hE2)
  | false => exact iteF (h2 rfl Oe Fz O H1 σ (s.mono e1) _ hE2)
/-- several targets that are names -/
inductive NamesAt (S : SC) : List Expr → List Nat → Prop
  | nil : NamesAt S [] []
  | cons {t : Str} {p : Pos} {j : Nat} {es : List Expr} {js : List Nat} (hN : S.N[j]? = some t) (hx : Loc S.scope t) (hf : S.fn t = true ∨ S.scope.names.lookup t = some .local) (r : NamesAt S es js) : NamesAt S (.Name t p :: es) (j :: js)
theorem NamesAt.one {t : Str} {p : Pos} {j : Nat} {es : List Expr} {js : List Nat} (r : NamesAt S es js) (hN : S.N[j]? = some t := by rfl) (hx : Loc S.scope t := by first | exact Or.inl rfl | exact Or.inr rfl)
    (hf : S.fn t = true ∨ S.scope.names.lookup t = some .local := by first | exact Or.inl rfl | exact Or.inr rfl) : NamesAt S (.Name t p :: es) (j :: js) := .cons hN hx hf r
def gNames : List Nat → TGs
  | [] => gNil
  | j :: js => gCons (gName j) (gNames js)
theorem pgs_names {X : Cx} (h : S.Holds X) : ∀ {es : List Expr} {js : List Nat}, NamesAt S es js → PGs X es (gNames js)
  | _, _, .nil => pgs_nil
  | _, _, .cons hN hx hf r => pgs_cons (pg_nameS hN hx hf X h) (pgs_names h r)
theorem gNames_run {Q : L2.St → Hp → Prop} {H : Hp} : ∀ {js : List Nat} {vs : List V} {σ : L2.St}, vs.length = js.length → Q (setAll σ js vs) H → gNames js vs σ H Q
  | [], [], σ, _, q => ⟨rfl, q⟩
  | j :: js, v :: vs, σ, hl, q => ⟨v, vs, rfl, gNames_run (js := js) (by simpa using hl) q⟩
theorem js_unpack {ts : List Expr} {js : List Nat} {kk : Nat} (he : JE S ds e (.tuple xs)) (hn : NamesAt S ts js) (hl : xs.length = js.length) (k : JS S m rest (setD ds js xs) D)
    (h1 : ∀ env, (assignEach ts env).length = js.length := by intro _; rfl) (h2 : ∀ env, (assignEach ts env).findIdx? (·.1) = none := by intro _; rfl)
    (h3 : ∀ env : Env, env.scope = S.scope → swappedStores [.Tuple ts kk pt] e env = pure none := by intro _ _; rfl) (h4 : ∀ env, swapsWithSole [.Tuple ts kk pt] e pos.line env = pure false := by intro _; rfl) : JS S m (.Assign [.Tuple ts kk pt] e pos :: rest) ds D := by
  intro Oe Fz O H σ s E hE
  refine ts_cons (ts := tAsg (teOf S e) (gTup S.K js.length (gNames js))) (fun X h => by rw [← h.K]; exact ps_asg (pe_teOf h) (pg_tup h.calm (pgs_names h hn) (h1 _) (h2 _)) (h4 _) (h3 _ h.scope)) ?_
  refine he O σ H s.st _ fun v H1 e1 r1 => ?_
  cases r1 with
  | @tup a vs _ h rs =>
    have hlv : vs.length = js.length := by rw [rs.len, hl]
    exact ⟨a, vs, rfl, SqT.of (hide_sub _ _ h), hlv, gNames_run hlv (k Oe Fz O H1 _ ((s.mono e1).setAll rs) E hE)⟩
def envS (sc : Scope) : Env := { scope := sc, locals := 0, globals := 0, cells := [] }
theorem swapped_env {ts : List Expr} {v : Expr} {env : Env} {sc : Scope} (h : env.scope = sc) : swappedStores ts v env = swappedStores ts v (envS sc) := by
  subst h
  unfold swappedStores Env.blockKind Env.kindOf
  rfl
theorem js_par2 {ke k2 : Nat} (ha : JE S ds a x) (hb : JE S ds b y) (k : JS S m rest ((ds.set i (.val x)).set j (.val y)) D) (hi : S.N[i]? = some t := by rfl) (hj : S.N[j]? = some u := by rfl) (hij : i ≠ j := by decide)
    (hx : S.scope.names.lookup t = some .local := by rfl) (hy : S.scope.names.lookup u = some .local := by rfl) (hw : swappedStores [.Tuple [.Name t p1, .Name u p2] ke pt] (.Tuple [a, b] k2 p) (envS S.scope) = pure (some [t, u]) := by rfl)
    (s1 : ∀ env, starEach [a, b] env = (false, eval a env) :: starEach [b] env := by intro _; rfl) (s2 : ∀ env, starEach [b] env = (false, eval b env) :: starEach [] env := by intro _; rfl) :
    JS S m (.Assign [.Tuple [.Name t p1, .Name u p2] ke pt] (.Tuple [a, b] k2 p) pos :: rest) ds D := by
  intro Oe Fz O H σ s E hE
  refine ts_cons (fun X h => ps_par h.calm (h.N ▸ h.nd) (h.N ▸ hi) (h.N ▸ hj) hij (by rw [h.scope]; exact hx) (by rw [h.scope]; exact hy) (pa_taOf h) ((swapped_env h.scope).trans hw)) ?_
  refine ja_cons ha (ja_cons hb ja_nil s2) s1 O σ H s.st _ fun vs H1 e1 r1 => ?_
  cases r1 with
  | cons r r2 =>
    cases r2 with
    | cons r2 r3 =>
      cases r3
      exact ⟨_, _, rfl, k Oe Fz O H1 _ (((s.mono e1).set r).set r2) E hE⟩
theorem js_par3 {w : Str} {l ke k2 : Nat} {p3 : Pos} (ha : JE S ds a x) (hb : JE S ds b y) (hc : JE S ds c z) (k : JS S m rest (((ds.set i (.val x)).set j (.val y)).set l (.val z)) D) (hi : S.N[i]? = some t := by rfl) (hj : S.N[j]? = some u := by rfl) (hl : S.N[l]? = some w := by rfl)
    (hij : i ≠ j := by decide) (hil : i ≠ l := by decide) (hjl : j ≠ l := by decide)
    (hx : S.scope.names.lookup t = some .local := by rfl) (hy : S.scope.names.lookup u = some .local := by rfl) (hz : S.scope.names.lookup w = some .local := by rfl) (hw : swappedStores [.Tuple [.Name t p1, .Name u p2, .Name w p3] ke pt] (.Tuple [a, b, c] k2 p) (envS S.scope) = pure (some [t, u, w]) := by rfl)
    (s1 : ∀ env, starEach [a, b, c] env = (false, eval a env) :: starEach [b, c] env := by intro _; rfl) (s2 : ∀ env, starEach [b, c] env = (false, eval b env) :: starEach [c] env := by intro _; rfl) (s3 : ∀ env, starEach [c] env = (false, eval c env) :: starEach [] env := by intro _; rfl) :
    JS S m (.Assign [.Tuple [.Name t p1, .Name u p2, .Name w p3] ke pt] (.Tuple [a, b, c] k2 p) pos :: rest) ds D := by
  intro Oe Fz O H σ s E hE
  refine ts_cons (fun X h => ps_par3 h.calm (h.N ▸ h.nd) (h.N ▸ hi) (h.N ▸ hj) (h.N ▸ hl) hij hil hjl (by rw [h.scope]; exact hx) (by rw [h.scope]; exact hy) (by rw [h.scope]; exact hz) (pa_taOf h) ((swapped_env h.scope).trans hw)) ?_
  refine ja_cons ha (ja_cons hb (ja_cons hc ja_nil s3) s2) s1 O σ H s.st _ fun vs H1 e1 r1 => ?_
  cases r1 with
  | cons r r2 =>
    cases r2 with
    | cons r2 r3 =>
      cases r3 with
      | cons r3 r4 =>
        cases r4
        exact ⟨_, _, _, rfl, k Oe Fz O H1 _ ((((s.mono e1).set r).set r2).set r3) E hE⟩
/-! ### loops -/
def frz (K F : Hp) : Hp := fun a => match K a with
  | some o => some o
  | none => F a
theorem js_for {α : Type} {tg iter : Expr} {g : TG} {js : List Nat} {items : List α} {row : α → List PyData} {body : List Stmt} (P : Nat → List Slot → Prop) (hw : JW S ds tg iter g js items row) (hg : ∀ X, S.Holds X → PG X tg g) (h0 : P 0 ds)
    (hs : ∀ (i : Nat) (a : α) ds', items[i]? = some a → P i ds' → JS S m body (setD ds' js (row a)) { nx := P (i + 1), ct := P (i + 1), bk := M, rt := D.rt, xs := D.xs }) (hd : ∀ ds', P items.length ds' → M ds') (hr : ∀ ds', M ds' → JS S m rest ds' D)
    (hf : ∀ env x, foldedSetIterable iter env x = pure x := by intro _ _; rfl) : JS S m (.For tg iter body [] pos :: rest) ds D := by
  intro Oe Fz O H σ s E hE
  have fin : ∀ O' H' σ' ds', Sit m S.fa Oe Fz O' H' σ' ds' → M ds' → tsOf S rest E σ' H' := fun O' H' σ' ds' s' hM => hr ds' hM Oe Fz O' H' σ' s' E hE
  obtain ⟨wi, hPI, hwi⟩ := hw O σ H s.st (fun J H1 => ∃ W : Nat → Nat → L2.St → Hp → Prop, (∃ m, W 0 m σ H1) ∧ ∀ i m σ H, W i m σ H →
      (J.stop i H ∧ tsOf S rest E σ H) ∨ (J.go i H ∧ ∃ N : L2.St → Hp → Prop, (∀ σ' H', N σ' H' → ∃ m', m' < m ∧ W (i + 1) m' σ' H') ∧ ∀ x H', J.yld i H x H' → g x σ H' fun σ2 H2 => tsOf S body { nx := N, rt := E.rt, ct := N, bk := tsOf S rest E } σ2 H2))
    (fun J H1 G Y e1 wk stab yl => by
      have s1 := s.mono e1
      have fz : ∀ l, hide O H1 l = none → Fz l = none → frz (hide O H1) Fz l = none := fun l h1 h2 => by unfold frz; rw [h1]; exact h2
      have fzK : Same (hide O H1) (frz (hide O H1) Fz) := fun a o h => by unfold frz; rw [h]
      have fzF : Same Fz (frz (hide O H1) Fz) := fun a o h => by
        unfold frz
        cases q : hide O H1 a with
        | none => exact h
        | some o' =>
          have := s1.ext a o h
          rw [hide_sub a o' q] at this
          cases this
          rfl
      have fzO : ∀ l, frz (hide O H1) Fz l = none → hide O H1 l = none ∧ Fz l = none := fun l h => by
        unfold frz at h
        cases q : hide O H1 l with
        | none => rw [q] at h; exact ⟨rfl, h⟩
        | some o => rw [q] at h; cases h
      -- the body runs with what was known at the loop's start kept
      have back : ∀ O' H' σ' ds', Sit m S.fa Oe (frz (hide O H1) Fz) O' H' σ' ds' → Sit m S.fa Oe Fz O' H' σ' ds' := fun O' H' σ' ds' q =>
        ⟨q.sub, fzF.trans q.ext, q.own, fun l hl hE => (fzO l (q.new l hl hE)).2, q.st, fun hm => let ⟨a, b, c⟩ := q.fd hm; ⟨a, b, fun x hx => (fzO x (c x hx)).2⟩⟩
      have s2 : Sit m S.fa Oe (frz (hide O H1) Fz) O H1 σ ds := ⟨s1.sub, fun a o h => by
          unfold frz at h
          cases q : hide O H1 a with
          | none => rw [q] at h; exact s1.ext a o h
          | some o' =>
            rw [q] at h
            cases h
            exact hide_sub a _ q, s1.own, fun l hl hE => fz l (hide_in hl) (s1.new l hl hE), s1.st, fun hm => let ⟨a, b, c⟩ := s1.fd hm; ⟨a, b, fun x hx => fz x (hide_in (s1.sub x (a x hx))) (c x hx)⟩⟩
      have known : ∀ {O' H' σ' ds'}, Sit m S.fa Oe (frz (hide O H1) Fz) O' H' σ' ds' → Same (hide O H1) (hide O H') := fun q a o h => by
        obtain ⟨n1, _⟩ := hide_some h
        rw [hide_out n1]
        exact q.ext a o (fzK a o h)
      have disj : ∀ {O' H' σ' ds'}, Sit m S.fa Oe (frz (hide O H1) Fz) O' H' σ' ds' → ∀ a ∈ O', hide O H1 a = none := fun q a ha => by
        by_cases hE : a ∈ Oe
        · exact hide_in (s1.sub a hE)
        · exact (fzO a (q.new a ha hE)).1
      have hideK : ∀ {O' H' σ' ds'}, Sit m S.fa Oe (frz (hide O H1) Fz) O' H' σ' ds' → Same (hide O H1) H' := fun q a o h => q.ext a o (fzK a o h)
      refine for_it (tb := tsOf S body) (D := { nx := tsOf S rest E, rt := E.rt }) wk (fun i σ' H' => ∃ O' ds', Sit m S.fa Oe (frz (hide O H1) Fz) O' H' σ' ds' ∧ P i ds') ⟨O, ds, s2, h0⟩
        (fun i σ' H' _ ⟨_, _, q, _⟩ => stab H' (known q)) (fun i x σ' H' H3 hi ⟨O', ds', q, hP⟩ y => ?_) (fun σ' H' ⟨O', ds', q, hP⟩ => fin _ _ _ _ (back _ _ _ _ q) (hd ds' hP))
      have hia : items[i]? = some items[i] := by simp [hi]
      refine yl i items[i] H' x H3 σ' _ hia (stab H' (known q)) y fun vs e23 rvs => ?_
      have q3 := q.mono e23
      have em : Same (hide O H1) (hide O' H3) := fun a o h => by
        rw [hide_out (fun z => by rw [disj q a z] at h; cases h)]
        exact hideK q3 a o h
      have rv3 : RpAll (hide O' H3) vs (row items[i]) := rvs.mono em
      have q4 := q3.setAll (js := js) rv3
      -- new lists stay apart from what was known
      refine hs i items[i] ds' hia hP Oe (frz (hide O H1) Fz) O' H3 _ q4 _ ⟨fun O'' H'' σ'' ds'' q' hP' => ⟨O'', ds'', q', hP'⟩, fun v d H'' a b c e => hE.rt v d H'' (fzF.trans a) b c e, fun O'' H'' σ'' ds'' q' hM => fin _ _ _ _ (back _ _ _ _ q') hM, fun O'' H'' σ'' ds'' q' hP' => ⟨O'', ds'', q', hP'⟩, fun σ c f v d dx H a b r e x => hE.xs σ c f v d dx H (fzF.trans a) b r e x⟩)
  exact ts_cons (ts := tFor wi g (tsOf S body)) (fun X h => ps_for h.ps h.calm (hPI X h) (hg X h) (pss_tsOf h) (hf _)) hwi
end
end Sh


set_option Elab.async false
set_option linter.all false
set_option maxRecDepth 100000
set_option maxHeartbeats 40000000
set_option autoImplicit false
/-! J5: a while, lists that are written, draws, what a def promises -/
namespace Sh
open PySem PySem.Spec
      PyProof.Rows L2
section
variable {S : SC} {m : Bool} {ds : List Slot} {a b c e : Expr} {es : List Expr} {rest body : List Stmt} {x y z d : PyData} {xs ys : List PyData} {pos p p' p1 p2 p3 pt : Pos} {D : DEnds} {M : List Slot → Prop} {i j n : Nat} {k : Bool} {t u : Str}
theorem js_while (W : Nat → List Slot → Prop) (m0 : Nat) (h0 : W m0 ds)
    (hs : ∀ n ds', W n ds' → ∃ k, JT S ds' c k ∧ (k = true → JS S m body ds' { nx := fun ds2 => ∃ n', n' < n ∧ W n' ds2, ct := fun ds2 => ∃ n', n' < n ∧ W n' ds2, bk := M, rt := D.rt, xs := D.xs }) ∧ (k = false → M ds')) (hr : ∀ ds', M ds' → JS S m rest ds' D) :
    JS S m (.While c body [] pos :: rest) ds D := by
  intro Oe Fz O H σ s E hE
  refine ts_cons (fun X h => ps_while h.ps (pt_ttOf h) (pss_tsOf h)) ?_
  refine ⟨fun n σ' H' => ∃ O' ds', Sit m S.fa Oe Fz O' H' σ' ds' ∧ W n ds', ⟨m0, O, ds, s, h0⟩, ?_⟩
  rintro n σ' H' ⟨O', ds', q, hW⟩
  obtain ⟨k, hc, h1, h2⟩ := hs n ds' hW
  refine hc O' σ' H' q.st _ fun H1 e1 => ?_
  have q1 := q.mono e1
  cases k with
  | true =>
    refine iteT ⟨fun σ2 H2 => ∃ n', n' < n ∧ ∃ O2 ds2, Sit m S.fa Oe Fz O2 H2 σ2 ds2 ∧ W n' ds2, fun σ2 H2 z => z, ?_⟩
    refine h1 rfl Oe Fz O' H1 σ' q1 _ ⟨fun O2 H2 σ2 ds2 q2 ⟨n', l, w⟩ => ⟨n', l, O2, ds2, q2, w⟩, hE.rt, fun O2 H2 σ2 ds2 q2 hM => hr ds2 hM Oe Fz O2 H2 σ2 q2 E hE, fun O2 H2 σ2 ds2 q2 ⟨n', l, w⟩ => ⟨n', l, O2, ds2, q2, w⟩, hE.xs⟩
  | false => exact iteF (hr ds' (h2 rfl) Oe Fz O' H1 σ' q1 E hE)
/-! ### lists that are written -/
theorem jn_lst (h : JA S ds es xs) (hl : xs.length ≤ 1000000 := by decide) : JN S ds (.List es pos) xs := by
  intro O σ H st Q k
  refine te_mk (fun X h => pe_lst (pa_taOf h)) ?_
  refine h O σ H st _ fun vs H1 e1 r1 => ⟨le_line (by rw [r1.len]; exact hl), fun q hq => ?_⟩
  have hq0 : H q = none := by
    cases z : H q with
    | none => rfl
    | some o => rw [e1 q o z] at hq; cases hq
  exact k _ vs _ hq0 (e1.trans (Same.upd_new hq)) upd_same ((r1.mono (hide_cons hq)).mono (hide_same (Same.upd_new hq)))
theorem js_asgN (he : JN S ds e xs) (k : JS S m rest (ds.set i (.own xs)) D) (hN : S.N[i]? = some t := by rfl) (hx : Loc S.scope t := by first | exact Or.inl rfl | exact Or.inr rfl) (hf : S.fn t = true ∨ S.scope.names.lookup t = some .local := by first | exact Or.inl rfl | exact Or.inr rfl)
    (hs : ∀ env : Env, env.scope = S.scope → swapsWith e (some (.Name t p')) pos.line env = pure false := by intro _ _; rfl) : JS S m (.Assign [.Name t p'] e pos :: rest) ds D := by
  intro Oe Fz O H σ s E hE
  refine ts_cons (fun X h => ps_set (h.N ▸ h.nd) (h.N ▸ hN) (h.scope ▸ hx) (pe_teOf h) (hs _ h.scope) (by rw [h.fn, h.scope]; exact hf)) ?_
  refine he O σ H s.st _ fun q vs H1 hq e1 h1 r1 => ?_
  exact k Oe Fz _ H1 _ (s.newOwn hq e1 h1 r1) E hE
theorem js_freeze (hi : ds[i]? = some (.own xs)) (k : JS S m rest (ds.set i (.val (.list xs))) D) : JS S m rest ds D := by
  intro Oe Fz O H σ s E hE
  obtain ⟨O', q⟩ := s.freeze hi
  exact k Oe Fz O' H σ q E hE
theorem js_forget (i : Nat) (k : JS S m rest (ds.set i .unk) D) : JS S m rest ds D := fun Oe Fz O H σ s E hE => k Oe Fz O H σ s.forget E hE
/-- the value of a slot whose list is written: where it stands -/
theorem StOk.ownAt {fa : FA} {O : List Addr} {H : Hp} {σ : L2.St} (st : StOk fa O H σ ds) (hi : ds[i]? = some (.own xs)) : ∃ l vs, σ[i]? = some (some (.ref l)) ∧ l ∈ O ∧ H l = some (.lst vs) ∧ RpAll (hide O H) vs xs := by
  obtain ⟨x, h1, l, vs, rfl, h2, h3, h4⟩ := st.sl i _ hi
  exact ⟨l, vs, h1, h2, h3, h4⟩
theorem js_append {an : Str} (hi : ds[i]? = some (.own xs)) (he : JE S ds e d) (hz : xs.length ≤ 1000000) (k : JS S m rest (ds.set i (.own (xs ++ [d]))) D) (ha : an = "append" := by rfl) (hN : S.N[i]? = some t := by rfl)
    (hv : Vis S.scope t := by first | exact Or.inl rfl | exact Or.inr (Or.inl rfl) | exact Or.inr (Or.inr rfl)) (h1 : (t == ("__debug__" : Str)) = false := by decide) (h2 : (t == ("__classdict__" : Str)) = false := by decide)
    (hs : ∀ env, starEach [e] env = (false, eval e env) :: starEach [] env := by intro _; rfl) (hl : (p1.endLine == p2.line) = true := by rfl)
    (hfew : ∀ env, ((backTo p2 (starEach [e] env)).all (fun x => !x.1) && (backToKw p2 (keywordEach [] env)).all (fun x => x.1.isSome) && decide ([e].length + ([] : List Keyword).length + (if ([] : List Keyword).isEmpty then 0 else 1) < 30)) = true := by intro _; rfl) :
    JS S m (.Expr (.Call (.Attribute (.Name t p) an p1) [e] [] p2) pos :: rest) ds D := by
  subst ha
  intro Oe Fz O H σ s E hE
  obtain ⟨l, vs, hl1, lO, hl2, rl⟩ := s.st.ownAt hi
  refine ts_cons (ts := tDrop (tBM S.K "list" rAppend (tVar i) (taOf S [e]))) (fun X h => by rw [← h.K]; exact ps_expr (pe_bm PySem.F.plainAttrs_list PySem.F.slot_list_append PySem.F.type_list_append mt_append (pe_var (i := i) (h.N ▸ hN) (h.scope ▸ hv) h1 h2) (pa_taOf h) (by rfl) (hfew _) hl (hs _) (by rfl))) ?_
  refine ⟨_, hl1, .inl ⟨rfl, vs, SqL.of hl2⟩, ?_⟩
  refine ja_cons he ja_nil hs O σ H s.st _ fun ws H1 e1 r1 => ?_
  cases r1 with
  | cons r rr =>
    cases rr
    refine ⟨l, vs, _, rfl, rfl, e1 _ _ hl2, lt_line (by rw [rl.len]; exact hz), ?_⟩
    exact k Oe Fz O _ σ ((s.mono e1).write hi hl1 (e1 _ _ hl2) ((rl.mono (hide_same e1)).append (.cons r .nil))) E hE
theorem js_setI {ie : Expr} {v : Int} {jj : Nat} (hi : ds[i]? = some (.own xs)) (he : JE S ds e d) (hie : JE S ds ie (.int v)) (hv : ixN xs.length v = some jj) (k : JS S m rest (ds.set i (.own (xs.set jj d))) D) (hN : S.N[i]? = some t := by rfl)
    (hvv : Vis S.scope t := by first | exact Or.inl rfl | exact Or.inr (Or.inl rfl) | exact Or.inr (Or.inr rfl)) (h1 : (t == ("__debug__" : Str)) = false := by decide) (h2 : (t == ("__classdict__" : Str)) = false := by decide)
    (hs : ∀ env, swapsWithSole [.Subscript (.Name t p) ie p1] e pos.line env = pure false := by intro _; rfl) (hw : ∀ env, swappedStores [.Subscript (.Name t p) ie p1] e env = pure none := by intro _; rfl)
    (h3 : ∀ env v, assign (.Subscript (.Name t p) ie p1) env v = (do
      let ov ← holding [v] (eval (.Name t p) env)
      let iv ← holding [v, ov] (eval ie env)
      standAt p1
      holding [v, ov, iv]
            (setItem ov iv v)
      release [v, ov, iv] []) := by intro _ _; rfl) :
    JS S m (.Assign [.Subscript (.Name t p) ie p1] e pos :: rest) ds D := by
  intro Oe Fz O H σ s E hE
  obtain ⟨l, vs, hl1, lO, hl2, rl⟩ := s.st.ownAt hi
  refine ts_cons (ts := tAsg (teOf S e) (gSub (tVar i) (teOf S ie) rSetL)) (fun X h => ps_asg (pe_teOf h) (pg_sub (pe_var (i := i) (h.N ▸ hN) (h.scope ▸ hvv) h1 h2) (pe_teOf h) set_list (h3 _)) (hs _) (hw _)) ?_
  refine he O σ H s.st _ fun w H1 e1 r1 => ?_
  refine ⟨_, hl1, ?_⟩
  refine hie O σ H1 (s.st.mono e1) _ fun w2 H2 e2 r2 => ?_
  cases r2
  refine ⟨l, vs, v, jj, rfl, rfl, e2 _ _ (e1 _ _ hl2), by rw [rl.len]; exact hv, ?_⟩
  have e12 := e1.trans e2
  exact k Oe Fz O _ σ ((s.mono e12).write hi hl1 (e12 _ _ hl2) ((rl.mono (hide_same e12)).set jj (r1.mono (hide_same e2)))) E hE
/-- an item of a list that is written -/
theorem je_ixO {v : Int} (hi : ds[i]? = some (.own xs)) (hb : JE S ds b (.int v)) (h : atI xs v = some d) (hs : PlainIx b := by intro _ _; rfl) (hN : S.N[i]? = some t := by rfl)
    (hvv : Vis S.scope t := by first | exact Or.inl rfl | exact Or.inr (Or.inl rfl) | exact Or.inr (Or.inr rfl)) (h1 : (t == ("__debug__" : Str)) = false := by decide) (h2 : (t == ("__classdict__" : Str)) = false := by decide) :
    JE S ds (.Subscript (.Name t p) b pos) d := by
  intro O σ H st Q kq
  obtain ⟨l, vs, hl1, lO, hl2, rl⟩ := st.ownAt hi
  refine te_mk (t := tOp (rIxL S.K) (tVar i) (teOf S b)) (fun X h => by rw [← h.K]; exact pe_ix ix_list (pe_var (i := i) (h.N ▸ hN) (h.scope ▸ hvv) h1 h2) (pe_teOf h) hs) ?_
  refine ⟨_, hl1, ?_⟩
  refine hb O σ H st _ fun w H1 e1 r1 => ?_
  cases r1
  unfold atI at h
  cases q : ixN xs.length v with
  | none => rw [q] at h; cases h
  | some jj =>
    rw [q] at h
    obtain ⟨w, hw, rw'⟩ := rl.get (show xs[jj]? = some d from h)
    exact ⟨l, vs, v, w, rfl, rfl, SqL.of (e1 _ _ hl2), by unfold atI; rw [rl.len, q]; exact hw, kq w H1 e1 (rw'.mono (hide_same e1))⟩
/-- flat data stands in no heap -/
def scalD : PyData → Bool
  | .none => true
  | .bool _ => true
  | .int _ => true
  | .str _ => true
  | _ => false
theorem Rp.scal {H H' : Hp} {v : V} {d : PyData} (r : Rp H v d) (h : scalD d = true) : Rp H' v d := by
  cases r with
  | non => exact .non
  | bl b => exact .bl b
  | int i => exact .int i
  | str s => exact .str s
  | lst _ _ => cases h
  | tup _ _ => cases h
theorem StOk.freeze {fa : FA} {O : List Addr} {H : Hp} {σ : L2.St} (st : StOk fa O H σ ds) (hi : ds[i]? = some (.own xs)) : ∃ O', StOk fa O' H σ (ds.set i (.val (.list xs))) := by
  obtain ⟨l, us, e1, lO, h3, r3⟩ := st.ownAt hi
  have hib : i < ds.length := (List.getElem?_eq_some_iff.mp hi).1
  have sub' : ∀ a ∈ O.filter (fun a => decide (a ≠ l)), a ∈ O := fun a ha => (List.mem_filter.mp ha).1
  have em : Same (hide O H) (hide (O.filter (fun a => decide (a ≠ l))) H) := hide_mono sub'
  have no : ∀ {j : Nat} {zs : List PyData}, (ds.set i (.val (.list xs)))[j]? = some (.own zs) → i ≠ j ∧ ds[j]? = some (.own zs) := fun {j zs} q => by
    by_cases hj : i = j
    · subst hj
      rw [List.getElem?_set_self hib] at q
      cases q
    · rw [List.getElem?_set_ne hj] at q
      exact ⟨hj, q⟩
  refine ⟨O.filter (fun a => decide (a ≠ l)), ⟨by rw [List.length_set, st.len], fun j sl q => ?_, fun j k as bs l' q1 q2 hjk => st.ap j k as bs l' (no q1).2 (no q2).2 hjk, fun a ha => st.dom a (sub' a ha)⟩⟩
  by_cases hj : i = j
  · subst hj
    rw [List.getElem?_set_self hib] at q
    cases q
    exact ⟨_, e1, _, rfl, .lst (by rw [hide_out (by simp)]; exact h3) (r3.mono em)⟩
  · rw [List.getElem?_set_ne hj] at q
    obtain ⟨x, f1, f2⟩ := st.sl j sl q
    refine ⟨x, f1, ?_⟩
    cases sl with
    | unk => trivial
    | val d => obtain ⟨v, h1, h2⟩ := f2; exact ⟨v, h1, h2.mono em⟩
    | own zs =>
      obtain ⟨l', us', h1, h2, h3, h4⟩ := f2
      subst h1
      have ne : l' ≠ l := fun z => st.ap i j xs zs l hi q hj e1 (z ▸ f1)
      exact ⟨l', us', rfl, List.mem_filter.mpr ⟨h2, by simpa using ne⟩, h3, h4.mono em⟩
    | fd => exact f2
    | dct kvs => obtain ⟨q, q1, q2⟩ := f2; exact ⟨q, q1, em _ _ q2⟩
    | dkv kvs => obtain ⟨q, ws, q1, q2, q3, q4⟩ := f2; exact ⟨q, ws, q1, em _ _ q2, q3, q4.mono em⟩
/-- a list that is written is read for a flat answer -/
theorem je_borrow (i : Nat) (hi : ds[i]? = some (.own xs)) (h : JE S (ds.set i (.val (.list xs))) e d) (hd : scalD d = true := by rfl) : JE S ds e d := by
  intro O σ H st Q kq
  obtain ⟨O', q⟩ := st.freeze hi
  exact h O' σ H q Q fun v H' e1 r1 => kq v H' e1 (r1.scal hd)
theorem jt_borrow (i : Nat) (hi : ds[i]? = some (.own xs)) (h : JT S (ds.set i (.val (.list xs))) e k) : JT S ds e k := by
  intro O σ H st Q kq
  obtain ⟨O', q⟩ := st.freeze hi
  exact h O' σ H q Q kq
end
/-! ### draws -/
/-- all but the feed is kept -/
def SameF (fa : FA) (H H' : Hp) : Prop := ∀ a o, a ∉ fa.all → H a = some o → H' a = some o
theorem SameF.of {fa : FA} {H H' : Hp} (e : Same H H') : SameF fa H H' := fun a o _ h => e a o h
theorem SameF.trans {fa : FA} {H H1 H2 : Hp} (a : SameF fa H H1) (b : SameF fa H1 H2) : SameF fa H H2 := fun x o n h => b x o n (a x o n h)
theorem SameF.hide {fa : FA} {O : List Addr} {H H' : Hp} (hf : fa.In O) (e : SameF fa H H') : Same (hide O H) (hide O H') := fun a o h => by
  obtain ⟨h1, h2⟩ := hide_some h
  rw [hide_out h1]
  exact e a o (fun z => h1 (hf a z)) h2
theorem StOk.monoF {fa : FA} {O : List Addr} {H H' : Hp} {σ : L2.St} {ds : List Slot} (st : StOk fa O H σ ds) (hf : fa.In O) (f : Feed fa O H) (e : SameF fa H H') (f' : Feed fa O H') : StOk fa O H' σ ds := by
  refine ⟨st.len, fun i s q => ?_, st.ap, fun a ha => ?_⟩
  · obtain ⟨x, h1, h2⟩ := st.sl i s q
    refine ⟨x, h1, ?_⟩
    cases s with
    | unk => trivial
    | val d => obtain ⟨v, q1, q2⟩ := h2; exact ⟨v, q1, q2.mono (e.hide hf)⟩
    | own xs =>
      obtain ⟨l, vs, q1, q2, q3, q4⟩ := h2
      exact ⟨l, vs, q1, q2, e l _ (f.notL q3) q3, q4.mono (e.hide hf)⟩
    | fd => exact h2
    | dct kvs => obtain ⟨q, q1, q2⟩ := h2; exact ⟨q, q1, e.hide hf _ _ q2⟩
    | dkv kvs => obtain ⟨q, ws, q1, q2, q3, q4⟩ := h2; exact ⟨q, ws, q1, e.hide hf _ _ q2, q3, q4.mono (e.hide hf)⟩
  · by_cases haf : a ∈ fa.all
    · exact (f'.at_ haf).1
    · cases q : H a with
      | none => exact absurd q (st.dom a ha)
      | some o => rw [e a o haf q]; simp
theorem Sit.monoF {fa : FA} {Oe O : List Addr} {Fz H H' : Hp} {σ : L2.St} {ds : List Slot} (s : Sit true fa Oe Fz O H σ ds) (e : SameF fa H H') (f' : Feed fa O H') : Sit true fa Oe Fz O H' σ ds := by
  obtain ⟨a, b, c⟩ := s.fd rfl
  exact ⟨s.sub, fun x o h => e x o (fun z => by rw [c x z] at h; cases h) (s.ext x o h), s.own, s.new, s.st.monoF (upIn s.sub a) b e f', fun _ => ⟨a, f', c⟩⟩
/-- an expression that may draw: its value is one of which P holds -/
def JF (S : SC) (ds : List Slot) (e : Expr) (P : PyData → Prop) : Prop :=
  ∀ (O : List Addr) (σ : L2.St) (H : Hp), StOk S.fa O H σ ds → S.fa.In O → Feed S.fa O H → ∀ Q : VK, (∀ v d H', SameF S.fa H H' → Feed S.fa O H' → Rp (hide O H') v d → P d → Q v H') → teOf S e σ H Q
def JAF (S : SC) (ds : List Slot) (es : List Expr) (P : List PyData → Prop) : Prop :=
  ∀ (O : List Addr) (σ : L2.St) (H : Hp), StOk S.fa O H σ ds → S.fa.In O → Feed S.fa O H → ∀ Q : List V → Hp → Prop, (∀ vs xs H', SameF S.fa H H' → Feed S.fa O H' → RpAll (hide O H') vs xs → P xs → Q vs H') → taOf S es σ H Q
def JTF (S : SC) (ds : List Slot) (e : Expr) (P : Bool → Prop) : Prop :=
  ∀ (O : List Addr) (σ : L2.St) (H : Hp), StOk S.fa O H σ ds → S.fa.In O → Feed S.fa O H → ∀ Q : Bool → Hp → Prop, (∀ b H', SameF S.fa H H' → Feed S.fa O H' → P b → Q b H') → ttOf S e σ H Q
/-- the promise of a def whose first argument is the feed: R args P, then the value is one of P -/
def spF (R : List PyData → (PyData → Prop) → Prop) : Sp := fun vs H Q _ => ∃ (fa : FA) (O : List Addr) (ws : List V) (args : List PyData) (P : PyData → Prop), vs = .ref fa.ad :: ws ∧ fa.In O ∧ (∀ a ∈ O, H a ≠ none) ∧ Feed fa O H ∧ RpAll (hide O H) ws args ∧ R args P ∧
  ∀ v d H', SameF fa H H' → Feed fa O H' → Rp (hide O H') v d → P d → Q v H'
section
variable {S : SC} {ds : List Slot} {a b c e : Expr} {es : List Expr} {rest body : List Stmt} {x y z d : PyData} {xs ys : List PyData} {pos p p' p1 p2 p3 pt : Pos} {D : DEnds} {M : List Slot → Prop} {i j n : Nat} {k : Bool} {t u : Str} {P : PyData → Prop} {PA : List PyData → Prop} {PB : Bool → Prop}
theorem jf_of (h : JE S ds e d) (hp : P d) : JF S ds e P := fun O σ H st hf f Q k => h O σ H st Q fun v H' e1 r1 => k v d H' (.of e1) (f.mono e1) r1 hp
theorem JF.mono {P' : PyData → Prop} (h : JF S ds e P) (q : ∀ d, P d → P' d) : JF S ds e P' := fun O σ H st hf f Q k => h O σ H st hf f Q fun v d H' a b c e => k v d H' a b c (q d e)
theorem jaf_nil (hp : PA []) : JAF S ds [] PA := fun O σ H st hf f Q k => ta_mk (fun X h => pa_nil) (k [] [] H (.of (Same.refl H)) f .nil hp)
theorem jaf_cons (ha : JF S ds e fun d => JAF S ds es fun xs => PA (d :: xs)) (hs : ∀ env, starEach (e :: es) env = (false, eval e env) :: starEach es env := by intro _; rfl) : JAF S ds (e :: es) PA := by
  intro O σ H st hf f Q k
  refine ta_mk (fun X h => pa_cons (pe_teOf h) (pa_taOf h) (hs _)) ?_
  refine ha O σ H st hf f _ fun v d H1 e1 f1 r1 hr => ?_
  refine hr O σ H1 (st.monoF hf f e1 f1) hf f1 _ fun vs xs H2 e2 f2 r2 hp => ?_
  exact k _ _ H2 (e1.trans e2) f2 (.cons (r1.mono (e2.hide hf)) r2) hp
theorem jf_tup {n : Nat} (h : JAF S ds es fun xs => xs.length ≤ 1000000 ∧ P (.tuple xs)) : JF S ds (.Tuple es n pos) P := by
  intro O σ H st hf f Q k
  refine te_mk (fun X h => pe_tup (pa_taOf h)) ?_
  refine h O σ H st hf f _ fun vs xs H1 e1 f1 r1 hp => ⟨le_line (by rw [r1.len]; exact hp.1), fun q hq => ?_⟩
  exact k _ _ _ (e1.trans (.of (Same.upd_new hq))) (f1.mono (Same.upd_new hq)) (new_rpT (st.monoF hf f e1 f1).dom hq r1) hp.2
theorem jf_op {op : Operator} {r : R2} (ho : ∀ X, S.Holds X → OpR X (binaryOp op) r) (ha : JE S ds a x) (hb : JF S ds b fun y => ∃ z, RD2 r x y z ∧ P z) : JF S ds (.BinOp a op b pos) P := by
  intro O σ H st hf f Q k
  refine te_mk (fun X h => pe_op (ho X h) (pe_teOf h) (pe_teOf h)) ?_
  refine ha O σ H st _ fun v H1 e1 r1 => hb O σ H1 (st.mono e1) hf (f.mono e1) _ fun w y H2 e2 f2 r2 hz => ?_
  obtain ⟨z, hr, hp⟩ := hz
  have st2 := (st.mono e1).monoF hf (f.mono e1) e2 f2
  exact hr O H2 v w st2.dom (r1.mono (e2.hide hf)) r2 Q fun u H3 e3 r3 => k u z H3 ((SameF.of e1).trans (e2.trans (.of e3))) (f2.mono e3) r3 hp
theorem jf_if (hc : JT S ds c k) (h1 : k = true → JF S ds a P) (h2 : k = false → JF S ds b P) : JF S ds (.IfExp c a b pos) P := by
  intro O σ H st hf f Q kk
  refine te_mk (fun X h => pe_ifExp (pt_ttOf h) (pe_teOf h) (pe_teOf h)) ?_
  refine hc O σ H st _ fun H1 e1 => ?_
  cases k with
  | true => exact iteT (h1 rfl O σ H1 (st.mono e1) hf (f.mono e1) Q fun v d H2 e2 f2 r2 hp => kk v d H2 ((SameF.of e1).trans e2) f2 r2 hp)
  | false => exact iteF (h2 rfl O σ H1 (st.mono e1) hf (f.mono e1) Q fun v d H2 e2 f2 r2 hp => kk v d H2 ((SameF.of e1).trans e2) f2 r2 hp)
/-- an item at a drawn place -/
theorem jf_ixL (ha : JE S ds a (.list xs)) (hb : JF S ds b fun y => ∃ v d, y = .int v ∧ atI xs v = some d ∧ P d) (hs : PlainIx b := by intro _ _; rfl) : JF S ds (.Subscript a b pos) P := by
  intro O σ H st hf f Q k
  refine te_mk (t := tOp (rIxL S.K) (teOf S a) (teOf S b)) (fun X h => by rw [← h.K]; exact pe_ix ix_list (pe_teOf h) (pe_teOf h) hs) ?_
  refine ha O σ H st _ fun v H1 e1 r1 => hb O σ H1 (st.mono e1) hf (f.mono e1) _ fun w y H2 e2 f2 r2 hz => ?_
  obtain ⟨i, d, rfl, hat, hp⟩ := hz
  have st2 := (st.mono e1).monoF hf (f.mono e1) e2 f2
  exact rd_ixL hat O H2 v w st2.dom (r1.mono (e2.hide hf)) r2 Q fun u H3 e3 r3 => k u d H3 ((SameF.of e1).trans (e2.trans (.of e3))) (f2.mono e3) r3 hp
theorem jtf_cmp {op : CmpOp} {r : R2} (ho : ∀ X, S.Holds X → OpR X (compareOp op) r) (ha : JF S ds a fun x => ∃ y k, JE S ds b y ∧ RD2 r x y (.bool k) ∧ PB k) (hm : behindInMarks op b = false) : JTF S ds (.Compare a [op] [b] pos) PB := by
  intro O σ H st hf f Q k
  refine tt_mk (fun X h => pt_cmpR (ho X h) (pe_teOf h) (pe_teOf h) hm) ?_
  refine ha O σ H st hf f _ fun v x H1 e1 f1 r1 hz => ?_
  obtain ⟨y, kk, hb, hr, hp⟩ := hz
  have st1 := st.monoF hf f e1 f1
  refine hb O σ H1 st1 _ fun w H2 e2 r2 => ?_
  refine hr O H2 v w (dom_mono st1.dom e2) (r1.mono (hide_same e2)) r2 _ fun u H3 e3 r3 => ?_
  cases r3
  exact ⟨kk, rfl, k kk H3 ((e1.trans (.of e2)).trans (.of e3)) ((f1.mono e2).mono e3) hp⟩
/-- f(feed, ..) -/
theorem jf_call {x : Str} {n : Nat} {R : List PyData → (PyData → Prop) → Prop} (C : Cal S.prog S.w S.K S.mg S.base x n (spF R)) (hn : n ≤ S.k) (hi : ds[i]? = some .fd) (ha : JA S ds es xs) (hR : R xs P)
    (hN : S.N[i]? = some t := by rfl) (hvv : Vis S.scope t := by first | exact Or.inl rfl | exact Or.inr (Or.inl rfl) | exact Or.inr (Or.inr rfl)) (h1 : (t == ("__debug__" : Str)) = false := by decide) (h2 : (t == ("__classdict__" : Str)) = false := by decide)
    (hg : S.scope.names.lookup x = some .globalImplicit := by rfl) (hdb : (x == ("__debug__" : Str)) = false := by decide)
    (hpl : ∀ env, (backTo pos (starEach es env)).any (·.1) = false := by intro _; rfl) : JF S ds (.Call (.Name x p) (.Name t p1 :: es) [] pos) P := by
  intro O σ H st hf f Q k
  have hv : σ[i]? = some (some (.ref S.fa.ad)) := by
    obtain ⟨y, q1, q2⟩ := st.sl i _ hi
    rw [q1, show y = some (.ref S.fa.ad) from q2]
  refine te_mk (fun X h => pe_cal h C hn hg (pa_cons (pe_var (i := i) (h.N ▸ hN) (h.scope ▸ hvv) h1 h2) (pa_taOf h) (by rfl)) hdb (by intro _; rfl) hpl) ?_
  refine ⟨_, hv, ?_⟩
  refine ha O σ H st _ fun vs H1 e1 r1 => ?_
  refine ⟨S.fa, O, vs, xs, P, by rw [List.append_nil], hf, (st.mono e1).dom, f.mono e1, r1, hR, fun v d H2 e2 f2 r2 hp => k v d H2 ((SameF.of e1).trans e2) f2 r2 hp⟩
/-! ### statements that draw -/
theorem js_asgF (he : JF S ds e fun d => JS S true rest (ds.set i (.val d)) D) (hN : S.N[i]? = some t := by rfl) (hx : Loc S.scope t := by first | exact Or.inl rfl | exact Or.inr rfl) (hf : S.fn t = true ∨ S.scope.names.lookup t = some .local := by first | exact Or.inl rfl | exact Or.inr rfl)
    (hs : ∀ env : Env, env.scope = S.scope → swapsWith e (some (.Name t p')) pos.line env = pure false := by intro _ _; rfl) : JS S true (.Assign [.Name t p'] e pos :: rest) ds D := by
  intro Oe Fz O H σ s E hE
  refine ts_cons (fun X h => ps_set (h.N ▸ h.nd) (h.N ▸ hN) (h.scope ▸ hx) (pe_teOf h) (hs _ h.scope) (by rw [h.fn, h.scope]; exact hf)) ?_
  obtain ⟨fE, fd, _⟩ := s.fd rfl
  refine he O σ H s.st (upIn s.sub fE) fd _ fun v d H1 e1 f1 r1 hk => ?_
  exact hk Oe Fz O H1 _ ((s.monoF e1 f1).set r1) E hE
theorem js_retF (he : JF S ds e D.rt) : JS S true (.Return (some e) pos :: rest) ds D := by
  intro Oe Fz O H σ s E hE
  refine ts_cons (ts := tRet (teOf S e)) (fun X h => ps_ret (pe_teOf h)) ?_
  obtain ⟨fE, fd, fz⟩ := s.fd rfl
  refine he O σ H s.st (upIn s.sub fE) fd _ fun v d H1 e1 f1 r1 hp => ?_
  have s1 := s.monoF e1 f1
  exact hE.rt v d H1 s1.ext (fun _ => f1.sub s.sub) (r1.mono (hide_mono s.sub)) hp
theorem js_unpackF {ts : List Expr} {js : List Nat} {kk : Nat} (he : JF S ds e fun d => ∃ xs, d = .tuple xs ∧ xs.length = js.length ∧ JS S true rest (setD ds js xs) D) (hn : NamesAt S ts js)
    (h1 : ∀ env, (assignEach ts env).length = js.length := by intro _; rfl) (h2 : ∀ env, (assignEach ts env).findIdx? (·.1) = none := by intro _; rfl)
    (h3 : ∀ env : Env, env.scope = S.scope → swappedStores [.Tuple ts kk pt] e env = pure none := by intro _ _; rfl) (h4 : ∀ env, swapsWithSole [.Tuple ts kk pt] e pos.line env = pure false := by intro _; rfl) : JS S true (.Assign [.Tuple ts kk pt] e pos :: rest) ds D := by
  intro Oe Fz O H σ s E hE
  refine ts_cons (ts := tAsg (teOf S e) (gTup S.K js.length (gNames js))) (fun X h => by rw [← h.K]; exact ps_asg (pe_teOf h) (pg_tup h.calm (pgs_names h hn) (h1 _) (h2 _)) (h4 _) (h3 _ h.scope)) ?_
  obtain ⟨fE, fd, _⟩ := s.fd rfl
  refine he O σ H s.st (upIn s.sub fE) fd _ fun v d H1 e1 f1 r1 hk => ?_
  obtain ⟨xs, rfl, hl, hk⟩ := hk
  cases r1 with
  | @tup a vs _ h rs =>
    have hlv : vs.length = js.length := by rw [rs.len, hl]
    exact ⟨a, vs, rfl, SqT.of (hide_sub _ _ h), hlv, gNames_run hlv (hk Oe Fz O H1 _ ((s.monoF e1 f1).setAll rs) E hE)⟩
/-- two names at once, both told by draws -/
theorem js_parF {ke k2 : Nat} (ha : JF S ds a fun x => JF S ds b fun y => JS S true rest ((ds.set i (.val x)).set j (.val y)) D) (hi : S.N[i]? = some t := by rfl) (hj : S.N[j]? = some u := by rfl) (hij : i ≠ j := by decide)
    (hx : S.scope.names.lookup t = some .local := by rfl) (hy : S.scope.names.lookup u = some .local := by rfl) (hw : swappedStores [.Tuple [.Name t p1, .Name u p2] ke pt] (.Tuple [a, b] k2 p) (envS S.scope) = pure (some [t, u]) := by rfl)
    (s1 : ∀ env, starEach [a, b] env = (false, eval a env) :: starEach [b] env := by intro _; rfl) (s2 : ∀ env, starEach [b] env = (false, eval b env) :: starEach [] env := by intro _; rfl) :
    JS S true (.Assign [.Tuple [.Name t p1, .Name u p2] ke pt] (.Tuple [a, b] k2 p) pos :: rest) ds D := by
  intro Oe Fz O H σ s E hE
  refine ts_cons (ts := tPar i j (tCons (teOf S a) (tCons (teOf S b) tNil))) (fun X h => ps_par h.calm (h.N ▸ h.nd) (h.N ▸ hi) (h.N ▸ hj) hij (by rw [h.scope]; exact hx) (by rw [h.scope]; exact hy) (pa_cons (pe_teOf h) (pa_cons (pe_teOf h) pa_nil (s2 _)) (s1 _)) ((swapped_env h.scope).trans hw)) ?_
  obtain ⟨fE, fd, _⟩ := s.fd rfl
  refine ha O σ H s.st (upIn s.sub fE) fd _ fun v x H1 e1 f1 r1 hb => ?_
  have q1 := s.monoF e1 f1
  refine hb O σ H1 q1.st (upIn s.sub fE) f1 _ fun w y H2 e2 f2 r2 hk => ?_
  exact ⟨v, w, rfl, hk Oe Fz O H2 _ (((q1.monoF e2 f2).set (r1.mono (e2.hide (upIn s.sub fE)))).set r2) E hE⟩
/-- a new list, and a draw -/
theorem js_parNF {ke k2 : Nat} (ha : JN S ds a xs) (hb : JF S ds b fun y => JS S true rest ((ds.set i (.own xs)).set j (.val y)) D) (hi : S.N[i]? = some t := by rfl) (hj : S.N[j]? = some u := by rfl) (hij : i ≠ j := by decide)
    (hx : S.scope.names.lookup t = some .local := by rfl) (hy : S.scope.names.lookup u = some .local := by rfl) (hw : swappedStores [.Tuple [.Name t p1, .Name u p2] ke pt] (.Tuple [a, b] k2 p) (envS S.scope) = pure (some [t, u]) := by rfl)
    (s1 : ∀ env, starEach [a, b] env = (false, eval a env) :: starEach [b] env := by intro _; rfl) (s2 : ∀ env, starEach [b] env = (false, eval b env) :: starEach [] env := by intro _; rfl) :
    JS S true (.Assign [.Tuple [.Name t p1, .Name u p2] ke pt] (.Tuple [a, b] k2 p) pos :: rest) ds D := by
  intro Oe Fz O H σ s E hE
  refine ts_cons (ts := tPar i j (tCons (teOf S a) (tCons (teOf S b) tNil))) (fun X h => ps_par h.calm (h.N ▸ h.nd) (h.N ▸ hi) (h.N ▸ hj) hij (by rw [h.scope]; exact hx) (by rw [h.scope]; exact hy) (pa_cons (pe_teOf h) (pa_cons (pe_teOf h) pa_nil (s2 _)) (s1 _)) ((swapped_env h.scope).trans hw)) ?_
  obtain ⟨fE, fd, fz⟩ := s.fd rfl
  refine ha O σ H s.st _ fun q vs H1 hq e1 h1 r1 => ?_
  have sf : S.fa.In O := upIn s.sub fE
  -- the list is set aside
  have st1 : StOk S.fa (q :: O) H1 σ ds := s.st.hideMore hq e1 (by rw [h1]; simp)
  have f1 : Feed S.fa (q :: O) H1 := fd.more hq e1
  have hfq : S.fa.In (q :: O) := upIn (fun a h => List.mem_cons_of_mem _ h) sf
  refine hb (q :: O) σ H1 st1 hfq f1 _ fun w y H2 e2 f2 r2 hk => ?_
  have qf : q ∉ S.fa.all := fd.notN hq
  have h2 : H2 q = some (.lst vs) := e2 q _ qf h1
  have s2 : Sit true S.fa Oe Fz (q :: O) H2 (σ.set i (some (.ref q))) (ds.set i (.own xs)) := (s.newOwn hq e1 h1 r1).monoF e2 f2
  exact ⟨_, w, rfl, hk Oe Fz (q :: O) H2 _ (s2.set r2) E hE⟩
theorem js_appendF {an : Str} (hi : ds[i]? = some (.own xs)) (he : JF S ds e fun d => JS S true rest (ds.set i (.own (xs ++ [d]))) D) (hz : xs.length ≤ 1000000) (ha : an = "append" := by rfl) (hN : S.N[i]? = some t := by rfl)
    (hv : Vis S.scope t := by first | exact Or.inl rfl | exact Or.inr (Or.inl rfl) | exact Or.inr (Or.inr rfl)) (h1 : (t == ("__debug__" : Str)) = false := by decide) (h2 : (t == ("__classdict__" : Str)) = false := by decide)
    (hs : ∀ env, starEach [e] env = (false, eval e env) :: starEach [] env := by intro _; rfl) (hl : (p1.endLine == p2.line) = true := by rfl)
    (hfew : ∀ env, ((backTo p2 (starEach [e] env)).all (fun x => !x.1) && (backToKw p2 (keywordEach [] env)).all (fun x => x.1.isSome) && decide ([e].length + ([] : List Keyword).length + (if ([] : List Keyword).isEmpty then 0 else 1) < 30)) = true := by intro _; rfl) :
    JS S true (.Expr (.Call (.Attribute (.Name t p) an p1) [e] [] p2) pos :: rest) ds D := by
  subst ha
  intro Oe Fz O H σ s E hE
  obtain ⟨l, vs, hl1, lO, hl2, rl⟩ := s.st.ownAt hi
  refine ts_cons (ts := tDrop (tBM S.K "list" rAppend (tVar i) (tCons (teOf S e) tNil))) (fun X h => by rw [← h.K]; exact ps_expr (pe_bm PySem.F.plainAttrs_list PySem.F.slot_list_append PySem.F.type_list_append mt_append (pe_var (i := i) (h.N ▸ hN) (h.scope ▸ hv) h1 h2) (pa_cons (pe_teOf h) pa_nil (hs _)) (by rfl) (hfew _) hl (hs _) (by rfl))) ?_
  refine ⟨_, hl1, .inl ⟨rfl, vs, SqL.of hl2⟩, ?_⟩
  obtain ⟨fE, fd, fz⟩ := s.fd rfl
  refine he O σ H s.st (upIn s.sub fE) fd _ fun w d H1 e1 f1 r1 hk => ?_
  have ne : l ∉ S.fa.all := fd.notL hl2
  refine ⟨l, vs, w, rfl, rfl, e1 l _ ne hl2, lt_line (by rw [rl.len]; exact hz), ?_⟩
  exact hk Oe Fz O _ σ ((s.monoF e1 f1).write hi hl1 (e1 l _ ne hl2) ((rl.mono (e1.hide (upIn s.sub fE))).append (.cons r1 .nil))) E hE
theorem js_setIF {ie : Expr} {v : Int} {jj : Nat} (hi : ds[i]? = some (.own xs)) (he : JF S ds e fun d => JS S true rest (ds.set i (.own (xs.set jj d))) D) (hie : JE S ds ie (.int v)) (hv : ixN xs.length v = some jj) (hN : S.N[i]? = some t := by rfl)
    (hvv : Vis S.scope t := by first | exact Or.inl rfl | exact Or.inr (Or.inl rfl) | exact Or.inr (Or.inr rfl)) (h1 : (t == ("__debug__" : Str)) = false := by decide) (h2 : (t == ("__classdict__" : Str)) = false := by decide)
    (hs : ∀ env, swapsWithSole [.Subscript (.Name t p) ie p1] e pos.line env = pure false := by intro _; rfl) (hw : ∀ env, swappedStores [.Subscript (.Name t p) ie p1] e env = pure none := by intro _; rfl)
    (h3 : ∀ env v, assign (.Subscript (.Name t p) ie p1) env v = (do
      let ov ← holding [v] (eval (.Name t p) env)
      let iv ← holding [v, ov] (eval ie env)
      standAt p1
      holding [v, ov, iv]
            (setItem ov iv v)
      release [v, ov, iv] []) := by intro _ _; rfl) :
    JS S true (.Assign [.Subscript (.Name t p) ie p1] e pos :: rest) ds D := by
  intro Oe Fz O H σ s E hE
  obtain ⟨l, vs, hl1, lO, hl2, rl⟩ := s.st.ownAt hi
  refine ts_cons (ts := tAsg (teOf S e) (gSub (tVar i) (teOf S ie) rSetL)) (fun X h => ps_asg (pe_teOf h) (pg_sub (pe_var (i := i) (h.N ▸ hN) (h.scope ▸ hvv) h1 h2) (pe_teOf h) set_list (h3 _)) (hs _) (hw _)) ?_
  obtain ⟨fE, fd, fz⟩ := s.fd rfl
  refine he O σ H s.st (upIn s.sub fE) fd _ fun w d H1 e1 f1 r1 hk => ?_
  refine ⟨_, hl1, ?_⟩
  have q1 := s.monoF e1 f1
  refine hie O σ H1 q1.st _ fun w2 H2 e2 r2 => ?_
  cases r2
  have ne : l ∉ S.fa.all := fd.notL hl2
  have h2' : H2 l = some (.lst vs) := e2 _ _ (e1 l _ ne hl2)
  refine ⟨l, vs, v, jj, rfl, rfl, h2', by rw [rl.len]; exact hv, ?_⟩
  exact hk Oe Fz O _ σ ((q1.mono e2).write hi hl1 h2' ((rl.mono ((e1.hide (upIn s.sub fE)).trans (hide_same e2))).set jj (r1.mono (hide_same e2)))) E hE
theorem js_ifF {B1 B2 : List Stmt} (hc : JTF S ds c fun k => (k = true → JS S true B1 ds { D with nx := M }) ∧ (k = false → JS S true B2 ds { D with nx := M })) (hr : ∀ ds', M ds' → JS S true rest ds' D) : JS S true (.If c B1 B2 pos :: rest) ds D := by
  intro Oe Fz O H σ s E hE
  refine ts_cons (fun X h => ps_if (pt_ttOf h) (pss_tsOf h) (pss_tsOf h)) ?_
  obtain ⟨fE, fd, _⟩ := s.fd rfl
  refine hc O σ H s.st (upIn s.sub fE) fd _ fun k H1 e1 f1 hk => ?_
  have hE2 : EndsOk true S.fa S.W Oe Fz { D with nx := M } { E with nx := tsOf S rest E } := ⟨fun O H σ ds' s' hM => hr ds' hM Oe Fz O H σ s' E hE, hE.rt, hE.bk, hE.ct, hE.xs⟩
  cases k with
  | true => exact iteT (hk.1 rfl Oe Fz O H1 σ (s.monoF e1 f1) _ hE2)
  | false => exact iteF (hk.2 rfl Oe Fz O H1 σ (s.monoF e1 f1) _ hE2)
end
end Sh


set_option Elab.async false
set_option linter.all false
set_option maxRecDepth 100000
set_option maxHeartbeats 40000000
set_option autoImplicit false
/-! J6: comprehensions whose list is new, or that draw; loops over a drawn range; a def keeps its promise -/
namespace Sh
open PySem PySem.Spec
      PyProof.Rows L2
section
variable {S : SC} {α β : Type} {ds : List Slot} {tg src a b c elt iter e : Expr} {enc : α → PyData} {items : List α} {p pos p' : Pos} {j i : Nat} {rest body : List Stmt} {D : DEnds} {M : List Slot → Prop} {t : Str} {m : Bool}
theorem fresh_of {H H1 : Hp} {q : Addr} (e : Same H H1) (h : H1 q = none) : H q = none := by
  cases z : H q with
  | none => rfl
  | some o => rw [e q o z] at h; cases h
/-- the goal of a comprehension's walk -/
def LcGoal (J : It) (g : TG) (tt : TT) (te : TE) (vs : List Nat) (σ : L2.St) (H1 : Hp) (D : Addr) (Qd : Hp → Prop) : Prop :=
  ∃ W : Nat → Nat → Hp → Prop, (∃ m, W 0 m
        (upd H1 D (.lst []))) ∧ ∀ i m H, W i m H →
      (J.stop i H ∧ Qd H) ∨ (J.go i H ∧ ∃ Nx : Hp → Prop, (∀ H', Nx H' → ∃ m', m' < m ∧ W (i + 1) m' H') ∧
            ∀ x H', J.yld i H x H' → g x (wipe σ vs) H' fun σ2 H2 => wipe σ2 vs = wipe σ vs ∧ tt σ2 H2 fun b H3 =>
        if b = true then te σ2 H3 fun y H4 => ∃ acc, H4 D = some (.lst acc) ∧
              acc.length < sizeLine ∧ Nx (upd H4 D (.lst (acc ++ [y]))) else Nx H3)
theorem lcN_sem {scope : Scope} {own : List (Str × Nat)} {g : TG} {js : List Nat} {row : α → List PyData} {ifs : List Expr} {pr : α → Bool} {f : α → PyData} {O : List Addr} {σ : L2.St} {H : Hp} {Q : VK}
    (hjs : ∀ j ∈ js, j ∈ own.map (·.2)) (hz : items.length ≤ 1000000)
    (ht : ∀ a ∈ items, JC (S.blk scope) (setD (wipeD ds (own.map (·.2))) js (row a)) ifs (pr a))
    (he : ∀ a ∈ items, pr a = true → JE (S.blk scope) (setD (wipeD ds (own.map (·.2))) js (row a)) elt (f a))
    (st : StOk S.fa O H σ ds) (k : ∀ q vs H', H q = none → Same H H' → H' q = some (.lst vs) → RpAll (hide (q :: O) H') vs ((items.filter pr).map f) → Q (.ref q) H')
    {J : It} {H1 : Hp} {G : Hp → Prop} {Y : Nat → Hp → V → Hp → Prop} (e1 : Same H H1) (wk : Walk J items.length G Y) (stab : ∀ H2, Same (hide O H1) (hide O H2) → G H2)
    (yl : ∀ (i : Nat) (a : α) (H2 : Hp) (x : V) (H3 : Hp) (σ' : L2.St) (Q : L2.St → Hp → Prop), items[i]? = some a → G H2 → Y i H2 x H3 → (∀ vs, Same H2 H3 → RpAll (hide O H1) vs (row a) → Q (setAll σ' js vs) H3) → g x σ' H3 Q) :
    ∀ D, H1 D = none → LcGoal J g (tcOf (S.blk scope) ifs) (teOf (S.blk scope) elt) (own.map (·.2)) σ H1 D (fun H => Q (.ref D) H) := by
  intro D hD
  have st1 := st.mono e1
  have hDO : D ∉ O := not_in_of_new st1.dom hD
  refine lc_it wk (fun i H2 => ∃ acc, H2 D = some (.lst acc) ∧ RpAll (hide (D :: O) H2) acc (((items.take i).filter pr).map f) ∧ Same H1 H2) ⟨[], upd_same, .nil, Same.upd_new hD⟩
    (fun i H2 _ ⟨_, _, _, s⟩ => stab H2 (hide_same s)) (fun i x H2 H3 hi p y => ?_) fun H2 p => ?_
  · obtain ⟨acc, ha, ra, s⟩ := p
    have hia : items[i]? = some items[i] := by simp [hi]
    refine yl i items[i] H2 x H3 _ _ hia (stab H2 (hide_same s)) y fun vs e23 rvs => ⟨wipe_setAll hjs, ?_⟩
    have s13 := s.trans e23
    have hD3 : H3 D = some (.lst acc) := e23 _ _ ha
    have stB : StOk (S.blk scope).fa (D :: O) H3 (setAll (wipe σ (own.map (·.2))) js vs) (setD (wipeD ds (own.map (·.2))) js (row items[i])) :=
      ((st1.hideMore hD s13 (by rw [hD3]; simp)).wiped _).setAll (rvs.mono ((hide_cons hD).trans (hide_same s13)))
    refine ht _ (List.mem_of_getElem? hia) _ _ _ stB _ fun H4 e34 => ?_
    have tk : items.take (i + 1) = items.take i ++ [items[i]] := by rw [List.take_succ, hia]; rfl
    cases hp : pr items[i] with
    | true =>
      refine iteT (he _ (List.mem_of_getElem? hia) hp _ _ _ (stB.mono e34) _ fun y H5 e45 r5 => ⟨acc, e45 _ _ (e34 _ _ hD3), lt_line ?_, acc ++ [y], upd_same, ?_, ?_⟩)
      · rw [ra.len, List.length_map]
        have l1 := List.length_filter_le pr (items.take i)
        have l2 : (items.take i).length ≤ items.length := by rw [List.length_take]; omega
        omega
      · rw [hide_upd List.mem_cons_self, tk, List.filter_append, List.map_append]
        refine (ra.mono (hide_same ((e23.trans e34).trans e45))).append ?_
        rw [List.filter_cons, if_pos hp]
        exact .cons r5 .nil
      · exact fun b o hb => by
          rw [upd_ne (ne_of_none hb hD)]
          exact ((s13.trans e34).trans e45) b o hb
    | false =>
      refine iteF ⟨acc, e34 _ _ hD3, ?_, s13.trans e34⟩
      rw [tk, List.filter_append, List.map_append, List.filter_cons, if_neg (by rw [hp]; decide)]
      show RpAll _ acc (_ ++ [])
      rw [List.append_nil]
      exact ra.mono (hide_same (e23.trans e34))
  · obtain ⟨acc, ha, ra, s⟩ := p
    rw [List.take_length] at ra
    exact k D acc H2 (fresh_of e1 hD) (e1.trans s) ha ra
theorem jn_lc {scope : Scope} {own : List (Str × Nat)} {g : TG} {js : List Nat} {row : α → List PyData} {ifs : List Expr} {pr : α → Bool} {f : α → PyData} (own_ : own = own) (hw : JW S ds tg iter g js items row) (hg : ∀ X, (S.blk scope).Holds X → PG X tg g)
    (ok : blkC S.N S.scope scope own = true) (hjs : ∀ j ∈ js, j ∈ own.map (·.2)) (hz : items.length ≤ 1000000)
    (ht : ∀ a ∈ items, JC (S.blk scope) (setD (wipeD ds (own.map (·.2))) js (row a)) ifs (pr a))
    (he : ∀ a ∈ items, pr a = true → JE (S.blk scope) (setD (wipeD ds (own.map (·.2))) js (row a)) elt (f a))
    (hs : ∀ env x, foldedSetIterable iter env x = pure x := by intro _ _; rfl) : JN S ds (.ListComp elt [⟨tg, iter, ifs, 0⟩] scope pos) ((items.filter pr).map f) := by
  intro O σ H st Q k
  obtain ⟨wi, hPI, hwi⟩ := hw O σ H st (fun J H1 => ∀ D, H1 D = none → LcGoal J g (tcOf (S.blk scope) ifs) (teOf (S.blk scope) elt) (own.map (·.2)) σ H1 D (fun H => Q (.ref D) H))
    (fun J H1 G Y e1 wk stab yl => lcN_sem hjs hz ht he st k e1 wk stab yl)
  exact te_mk (t := tLc wi g (tcOf (S.blk scope) ifs) (teOf (S.blk scope) elt) (own.map (·.2))) (fun X h => pe_lc h.calm (h.N ▸ h.nd) (hPI X h) (blkOk_by (by rw [h.N, h.scope]; exact ok)) (fun s H C cl fp => hg _ (h.blk s H scope C cl fp))
    (fun s H C cl fp => pts_tcOf (h.blk s H scope C cl fp)) (fun s H C cl fp => pe_teOf (h.blk s H scope C cl fp)) (hs _)) hwi
/-- x = [..], the list still to be written -/
theorem js_asgLcN {scope : Scope} {own : List (Str × Nat)} {g : TG} {js : List Nat} {row : α → List PyData} {ifs : List Expr} {pr : α → Bool} {f : α → PyData} {lp : Pos} (own_ : own = own) (hw : JW S ds tg iter g js items row) (hg : ∀ X, (S.blk scope).Holds X → PG X tg g)
    (ok : blkC S.N S.scope scope own = true) (hjs : ∀ j ∈ js, j ∈ own.map (·.2)) (hz : items.length ≤ 1000000)
    (ht : ∀ a ∈ items, JC (S.blk scope) (setD (wipeD ds (own.map (·.2))) js (row a)) ifs (pr a))
    (he : ∀ a ∈ items, pr a = true → JE (S.blk scope) (setD (wipeD ds (own.map (·.2))) js (row a)) elt (f a))
    (k : JS S m rest (ds.set i (.own ((items.filter pr).map f))) D)
    (hN : S.N[i]? = some t := by rfl) (hyl : S.scope.names.lookup t = some .local := by rfl) (hk : S.scope.kind = .function := by rfl) (hl : (p'.line == lp.line) = true := by rfl)
    (ha : (scope.names.any fun (n, k) => n == t && (k == .local || k == .cell)) = false := by rfl)
    (hs : ∀ env x, foldedSetIterable iter env x = pure x := by intro _ _; rfl) : JS S m (.Assign [.Name t p'] (.ListComp elt [⟨tg, iter, ifs, 0⟩] scope lp) pos :: rest) ds D := by
  intro Oe Fz O H σ s E hE
  obtain ⟨wi, hPI, hwi⟩ := hw O σ H s.st (fun J H1 => ∀ D, H1 D = none → LcGoal J g (tcOf (S.blk scope) ifs) (teOf (S.blk scope) elt) (own.map (·.2)) σ H1 D (fun H => (fun v H' => tsOf S rest E (σ.set i (some v)) H') (.ref D) H))
    (fun J H1 G Y e1 wk stab yl => lcN_sem (Q := fun v H' => tsOf S rest E (σ.set i (some v)) H') hjs hz ht he s.st (fun q vs H' hq e h1 r => k Oe Fz _ H' _ (s.newOwn hq e h1 r) E hE) e1 wk stab yl)
  exact ts_cons (ts := tAsg (tLc wi g (tcOf (S.blk scope) ifs) (teOf (S.blk scope) elt) (own.map (·.2))) (gName i)) (fun X h => ps_setLc h.calm (h.N ▸ h.nd) (h.N ▸ hN) (by rw [h.scope]; exact hyl) (sw_true (by rw [h.scope]; exact hk) (by rw [h.scope]; exact hyl) hl ha) (hPI X h)
    (blkOk_by (by rw [h.N, h.scope]; exact ok)) (fun s H C cl fp => hg _ (h.blk s H scope C cl fp)) (fun s H C cl fp => pts_tcOf (h.blk s H scope C cl fp)) (fun s H C cl fp => pe_teOf (h.blk s H scope C cl fp)) (hs _)) hwi
/-! ### comprehensions that draw: I holds of the list so far -/
def JCF (S : SC) (ds : List Slot) (ifs : List Expr) (P : Bool → Prop) : Prop :=
  ∀ (O : List Addr) (σ : L2.St) (H : Hp), StOk S.fa O H σ ds → S.fa.In O → Feed S.fa O H → ∀ Q : Bool → Hp → Prop, (∀ b H', SameF S.fa H H' → Feed S.fa O H' → P b → Q b H') → tcOf S ifs σ H Q
theorem jcf_nil {P : Bool → Prop} (h : P true) : JCF S ds [] P := fun O σ H st hf f Q k => tc_mk (fun X h => pts_nil) (k true H (.of (Same.refl H)) f h)
theorem jcf_one {P : Bool → Prop} (h : JTF S ds c P) : JCF S ds [c] P := fun O σ H st hf f Q k => tc_mk (fun X h => pts_one (pt_ttOf h)) (h O σ H st hf f Q k)
theorem lcF_sem {scope : Scope} {own : List (Str × Nat)} {g : TG} {js : List Nat} {row : α → List PyData} {ifs : List Expr} {O : List Addr} {σ : L2.St} {H : Hp} {Q : VK} (I : Nat → List PyData → Prop) (h0 : I 0 []) (hIl : ∀ i xs, I i xs → xs.length ≤ 1000000)
    (hjs : ∀ j ∈ js, j ∈ own.map (·.2))
    (ht : ∀ i a xs, items[i]? = some a → I i xs → JCF (S.blk scope) (setD (wipeD ds (own.map (·.2))) js (row a)) ifs fun b =>
      (b = true → JF (S.blk scope) (setD (wipeD ds (own.map (·.2))) js (row a)) elt fun d => I (i + 1) (xs ++ [d])) ∧ (b = false → I (i + 1) xs))
    (st : StOk S.fa O H σ ds) (hf : S.fa.In O) (fd : Feed S.fa O H) (k : ∀ q vs xs H', H q = none → SameF S.fa H H' → Feed S.fa (q :: O) H' → H' q = some (.lst vs) → RpAll (hide (q :: O) H') vs xs → I items.length xs → Q (.ref q) H')
    {J : It} {H1 : Hp} {G : Hp → Prop} {Y : Nat → Hp → V → Hp → Prop} (e1 : Same H H1) (wk : Walk J items.length G Y) (stab : ∀ H2, Same (hide O H1) (hide O H2) → G H2)
    (yl : ∀ (i : Nat) (a : α) (H2 : Hp) (x : V) (H3 : Hp) (σ' : L2.St) (Q : L2.St → Hp → Prop), items[i]? = some a → G H2 → Y i H2 x H3 → (∀ vs, Same H2 H3 → RpAll (hide O H1) vs (row a) → Q (setAll σ' js vs) H3) → g x σ' H3 Q) :
    ∀ D, H1 D = none → LcGoal J g (tcOf (S.blk scope) ifs) (teOf (S.blk scope) elt) (own.map (·.2)) σ H1 D (fun H => Q (.ref D) H) := by
  intro D hD
  have st1 := st.mono e1
  have f1 := fd.mono e1
  have hDO : D ∉ O := not_in_of_new st1.dom hD
  have hDf : D ∉ S.fa.all := fun z => hDO (hf D z)
  have hfD : S.fa.In (D :: O) := upIn (fun a h => List.mem_cons_of_mem _ h) hf
  refine lc_it wk (fun i H2 => ∃ acc xs, H2 D = some (.lst acc) ∧ RpAll (hide (D :: O) H2) acc xs ∧ I i xs ∧ SameF S.fa H1 H2 ∧ Feed S.fa (D :: O) H2) ⟨[], [], upd_same, .nil, h0, .of (Same.upd_new hD), f1.more hD (Same.upd_new hD)⟩
    (fun i H2 _ ⟨_, _, _, _, _, s, _⟩ => stab H2 (s.hide hf)) (fun i x H2 H3 hi p y => ?_) fun H2 p => ?_
  · obtain ⟨acc, xs, ha, ra, hI, s, f2⟩ := p
    have hia : items[i]? = some items[i] := by simp [hi]
    refine yl i items[i] H2 x H3 _ _ hia (stab H2 (s.hide hf)) y fun vs e23 rvs => ⟨wipe_setAll hjs, ?_⟩
    have s13 : SameF S.fa H1 H3 := s.trans (.of e23)
    have f3 := f2.mono e23
    have hD3 : H3 D = some (.lst acc) := e23 _ _ ha
    have st0 : StOk S.fa (D :: O) (upd H1 D (.lst [])) σ ds := st1.hideMore hD (Same.upd_new hD) (by rw [upd_same]; simp)
    have em : Same (hide O H1) (hide (D :: O) H3) := (hide_cons hD).trans (s13.hide hfD)
    have stB : StOk (S.blk scope).fa (D :: O) H3 (setAll (wipe σ (own.map (·.2))) js vs) (setD (wipeD ds (own.map (·.2))) js (row items[i])) := by
      refine (StOk.wiped ⟨st0.len, fun j sl q => ?_, st0.ap, fun a ha' => ?_⟩ _).setAll (rvs.mono em)
      · obtain ⟨x, g1, g2⟩ := st1.sl j sl q
        refine ⟨x, g1, ?_⟩
        cases sl with
        | unk => trivial
        | val d => obtain ⟨v, q1, q2⟩ := g2; exact ⟨v, q1, q2.mono em⟩
        | own zs =>
          obtain ⟨l, us, q1, q2, q3, q4⟩ := g2
          exact ⟨l, us, q1, List.mem_cons_of_mem _ q2, s13 l _ (f1.notL q3) q3, q4.mono em⟩
        | fd => exact g2
        | dct kvs => obtain ⟨q, q1, q2⟩ := g2; exact ⟨q, q1, em _ _ q2⟩
        | dkv kvs => obtain ⟨q, ws, q1, q2, q3, q4⟩ := g2; exact ⟨q, ws, q1, em _ _ q2, q3, q4.mono em⟩
      · by_cases haf : a ∈ S.fa.all
        · exact (f3.at_ haf).1
        · rcases List.mem_cons.mp ha' with z | z
          · rw [z, hD3]; simp
          · cases q : H1 a with
            | none => exact absurd q (st1.dom a z)
            | some o => rw [s13 a o haf q]; simp
    refine ht i _ xs hia hI (D :: O) _ H3 stB hfD f3 _ fun b H4 e34 f4 hb => ?_
    cases b with
    | true =>
      refine iteT (hb.1 rfl (D :: O) _ H4 (stB.monoF hfD f3 e34 f4) hfD f4 _ fun y d H5 e45 f5 r5 hI' => ?_)
      have hD5 : H5 D = some (.lst acc) := e45 D _ hDf (e34 D _ hDf hD3)
      refine ⟨acc, hD5, lt_line (by rw [ra.len]; exact hIl i xs hI), acc ++ [y], xs ++ [d], upd_same, ?_, hI', ?_, f5.upd List.mem_cons_self hD5⟩
      · rw [hide_upd List.mem_cons_self]
        exact (ra.mono (((hide_same e23).trans (e34.hide hfD)).trans (e45.hide hfD))).append (.cons r5 .nil)
      · exact fun b o hb hH => by
          rw [upd_ne (ne_of_none hH hD)]
          exact ((s13.trans e34).trans e45) b o hb hH
    | false => exact iteF ⟨acc, xs, e34 D _ hDf hD3, ra.mono ((hide_same e23).trans (e34.hide hfD)), hb.2 rfl, s13.trans e34, f4⟩
  · obtain ⟨acc, xs, ha, ra, hI, s, f2⟩ := p
    exact k D acc xs H2 (fresh_of e1 hD) ((SameF.of e1).trans s) f2 ha ra hI
theorem jf_lc {scope : Scope} {own : List (Str × Nat)} {g : TG} {js : List Nat} {row : α → List PyData} {ifs : List Expr} {P : PyData → Prop} (own_ : own = own) (I : Nat → List PyData → Prop) (h0 : I 0 []) (hIl : ∀ i xs, I i xs → xs.length ≤ 1000000) (hw : JW S ds tg iter g js items row) (hg : ∀ X, (S.blk scope).Holds X → PG X tg g)
    (ok : blkC S.N S.scope scope own = true) (hjs : ∀ j ∈ js, j ∈ own.map (·.2))
    (ht : ∀ i a xs, items[i]? = some a → I i xs → JCF (S.blk scope) (setD (wipeD ds (own.map (·.2))) js (row a)) ifs fun b =>
      (b = true → JF (S.blk scope) (setD (wipeD ds (own.map (·.2))) js (row a)) elt fun d => I (i + 1) (xs ++ [d])) ∧ (b = false → I (i + 1) xs))
    (hd : ∀ xs, I items.length xs → P (.list xs))
    (hs : ∀ env x, foldedSetIterable iter env x = pure x := by intro _ _; rfl) : JF S ds (.ListComp elt [⟨tg, iter, ifs, 0⟩] scope pos) P := by
  intro O σ H st hf fd Q k
  obtain ⟨wi, hPI, hwi⟩ := hw O σ H st (fun J H1 => ∀ D, H1 D = none → LcGoal J g (tcOf (S.blk scope) ifs) (teOf (S.blk scope) elt) (own.map (·.2)) σ H1 D (fun H => Q (.ref D) H))
    (fun J H1 G Y e1 wk stab yl => lcF_sem I h0 hIl hjs ht st hf fd (fun q vs xs H' hq e f' h1 r hI => k (.ref q) (.list xs) H' e (f'.sub fun a h => List.mem_cons_of_mem _ h) (.lst (by rw [hide_out (not_in_of_new st.dom hq)]; exact h1) (r.mono hide_uncons)) (hd xs hI)) e1 wk stab yl)
  exact te_mk (t := tLc wi g (tcOf (S.blk scope) ifs) (teOf (S.blk scope) elt) (own.map (·.2))) (fun X h => pe_lc h.calm (h.N ▸ h.nd) (hPI X h) (blkOk_by (by rw [h.N, h.scope]; exact ok)) (fun s H C cl fp => hg _ (h.blk s H scope C cl fp))
    (fun s H C cl fp => pts_tcOf (h.blk s H scope C cl fp)) (fun s H C cl fp => pe_teOf (h.blk s H scope C cl fp)) (hs _)) hwi
/-- x = [draws ..], the list still to be written -/
theorem js_asgLcNF {scope : Scope} {own : List (Str × Nat)} {g : TG} {js : List Nat} {row : α → List PyData} {ifs : List Expr} {lp : Pos} (own_ : own = own) (I : Nat → List PyData → Prop) (h0 : I 0 []) (hIl : ∀ i xs, I i xs → xs.length ≤ 1000000) (hw : JW S ds tg iter g js items row) (hg : ∀ X, (S.blk scope).Holds X → PG X tg g)
    (ok : blkC S.N S.scope scope own = true) (hjs : ∀ j ∈ js, j ∈ own.map (·.2))
    (ht : ∀ i a xs, items[i]? = some a → I i xs → JCF (S.blk scope) (setD (wipeD ds (own.map (·.2))) js (row a)) ifs fun b =>
      (b = true → JF (S.blk scope) (setD (wipeD ds (own.map (·.2))) js (row a)) elt fun d => I (i + 1) (xs ++ [d])) ∧ (b = false → I (i + 1) xs))
    (k : ∀ xs, I items.length xs → JS S true rest (ds.set i (.own xs)) D) (hib : i < ds.length := by decide)
    (hN : S.N[i]? = some t := by rfl) (hyl : S.scope.names.lookup t = some .local := by rfl) (hk : S.scope.kind = .function := by rfl) (hl : (p'.line == lp.line) = true := by rfl)
    (ha : (scope.names.any fun (n, k) => n == t && (k == .local || k == .cell)) = false := by rfl)
    (hs : ∀ env x, foldedSetIterable iter env x = pure x := by intro _ _; rfl) : JS S true (.Assign [.Name t p'] (.ListComp elt [⟨tg, iter, ifs, 0⟩] scope lp) pos :: rest) ds D := by
  intro Oe Fz O H σ s E hE
  obtain ⟨fE, fd, fz⟩ := s.fd rfl
  obtain ⟨wi, hPI, hwi⟩ := hw O σ H s.st (fun J H1 => ∀ D, H1 D = none → LcGoal J g (tcOf (S.blk scope) ifs) (teOf (S.blk scope) elt) (own.map (·.2)) σ H1 D (fun H => (fun v H' => tsOf S rest E (σ.set i (some v)) H') (.ref D) H))
    (fun J H1 G Y e1 wk stab yl => lcF_sem (Q := fun v H' => tsOf S rest E (σ.set i (some v)) H') I h0 hIl hjs ht s.st (upIn s.sub fE) fd (fun q vs xs H' hq e f' h1 r hI => by
      have q0 : Sit true S.fa Oe Fz (q :: O) (upd H q (.lst [])) (σ.set i (some (.ref q))) (ds.set i (.own [])) := s.newOwn hq (Same.upd_new hq) upd_same .nil
      have qf : q ∉ S.fa.all := fd.notN hq
      have e' : SameF S.fa (upd H q (.lst [])) (upd H' q (.lst [])) := fun a o n h => by
        by_cases haq : a = q
        · rw [haq, upd_same] at h ⊢; exact h
        · rw [upd_ne haq] at h ⊢; exact e a o n h
      have f2 : Feed S.fa (q :: O) (upd H' q (.lst [])) := f'.upd List.mem_cons_self h1
      have q1 := q0.monoF e' f2
      have hi1 : (ds.set i (.own []))[i]? = some (.own []) := List.getElem?_set_self hib
      have hi2 : (σ.set i (some (.ref q)))[i]? = some (some (.ref q)) := List.getElem?_set_self (by rw [s.st.len]; exact hib)
      have q2 := q1.write (ws := vs) (ys := xs) hi1 hi2 upd_same (by rw [hide_upd List.mem_cons_self]; exact r)
      rw [List.set_set, upd_upd] at q2
      have eu : upd H' q (.lst vs) = H' := by
        funext b
        by_cases hb : b = q
        · rw [hb, upd_same, h1]
        · rw [upd_ne hb]
      rw [eu] at q2
      exact k xs hI Oe Fz _ H' _ q2 E hE) e1 wk stab yl)
  exact ts_cons (ts := tAsg (tLc wi g (tcOf (S.blk scope) ifs) (teOf (S.blk scope) elt) (own.map (·.2))) (gName i)) (fun X h => ps_setLc h.calm (h.N ▸ h.nd) (h.N ▸ hN) (by rw [h.scope]; exact hyl) (sw_true (by rw [h.scope]; exact hk) (by rw [h.scope]; exact hyl) hl ha) (hPI X h)
    (blkOk_by (by rw [h.N, h.scope]; exact ok)) (fun s H C cl fp => hg _ (h.blk s H scope C cl fp)) (fun s H C cl fp => pts_tcOf (h.blk s H scope C cl fp)) (fun s H C cl fp => pe_teOf (h.blk s H scope C cl fp)) (hs _)) hwi
end
end Sh


set_option Elab.async false
set_option linter.all false
set_option maxRecDepth 100000
set_option maxHeartbeats 40000000
set_option autoImplicit false
/-! J7: a loop over a drawn range; a def keeps its promise -/
namespace Sh
open PySem PySem.Spec
      PyProof.Rows L2
section
variable {S : SC} {α : Type} {ds : List Slot} {tg a iter : Expr} {items : List α} {p pos : Pos} {j : Nat} {rest body : List Stmt} {D : DEnds} {M : List Slot → Prop} {m : Bool}
theorem for_sem {g : TG} {js : List Nat} {row : α → List PyData} (P : Nat → List Slot → Prop) {Oe O : List Addr} {Fz H1 : Hp} {σ : L2.St} {E : Ends} (s1 : Sit m S.fa Oe Fz O H1 σ ds) (hE : EndsOk m S.fa S.W Oe Fz D E) (h0 : P 0 ds)
    (hs : ∀ (i : Nat) (a : α) ds', items[i]? = some a → P i ds' → JS S m body (setD ds' js (row a)) { nx := P (i + 1), ct := P (i + 1), bk := M, rt := D.rt, xs := D.xs }) (hd : ∀ ds', P items.length ds' → M ds') (hr : ∀ ds', M ds' → JS S m rest ds' D)
    {J : It} {G : Hp → Prop} {Y : Nat → Hp → V → Hp → Prop} (wk : Walk J items.length G Y) (stab : ∀ H2, Same (hide O H1) (hide O H2) → G H2)
    (yl : ∀ (i : Nat) (a : α) (H2 : Hp) (x : V) (H3 : Hp) (σ' : L2.St) (Q : L2.St → Hp → Prop), items[i]? = some a → G H2 → Y i H2 x H3 → (∀ vs, Same H2 H3 → RpAll (hide O H1) vs (row a) → Q (setAll σ' js vs) H3) → g x σ' H3 Q) :
    ∃ W : Nat → Nat → L2.St → Hp → Prop, (∃ m, W 0 m σ H1) ∧ ∀ i m σ H, W i m σ H →
      (J.stop i H ∧ tsOf S rest E σ H) ∨ (J.go i H ∧ ∃ N : L2.St → Hp → Prop, (∀ σ' H', N σ' H' → ∃ m', m' < m ∧ W (i + 1) m' σ' H') ∧ ∀ x H', J.yld i H x H' → g x σ H' fun σ2 H2 => tsOf S body { nx := N, rt := E.rt, ct := N, bk := tsOf S rest E } σ2 H2) := by
  have fin : ∀ O' H' σ' ds', Sit m S.fa Oe Fz O' H' σ' ds' → M ds' → tsOf S rest E σ' H' := fun O' H' σ' ds' s' hM => hr ds' hM Oe Fz O' H' σ' s' E hE
  have fz : ∀ l, hide O H1 l = none → Fz l = none → frz (hide O H1) Fz l = none := fun l h1 h2 => by unfold frz; rw [h1]; exact h2
  have fzK : Same (hide O H1) (frz (hide O H1) Fz) := fun a o h => by unfold frz; rw [h]
  have fzF : Same Fz (frz (hide O H1) Fz) := fun a o h => by
    unfold frz
    cases q : hide O H1 a with
    | none => exact h
    | some o' =>
      have := s1.ext a o h
      rw [hide_sub a o' q] at this
      cases this
      rfl
  have fzO : ∀ l, frz (hide O H1) Fz l = none → hide O H1 l = none ∧ Fz l = none := fun l h => by
    unfold frz at h
    cases q : hide O H1 l with
    | none => rw [q] at h; exact ⟨rfl, h⟩
    | some o => rw [q] at h; cases h
  have back : ∀ O' H' σ' ds', Sit m S.fa Oe (frz (hide O H1) Fz) O' H' σ' ds' → Sit m S.fa Oe Fz O' H' σ' ds' := fun O' H' σ' ds' q =>
    ⟨q.sub, fzF.trans q.ext, q.own, fun l hl hE => (fzO l (q.new l hl hE)).2, q.st, fun hm => let ⟨a, b, c⟩ := q.fd hm; ⟨a, b, fun x hx => (fzO x (c x hx)).2⟩⟩
  have s2 : Sit m S.fa Oe (frz (hide O H1) Fz) O H1 σ ds := ⟨s1.sub, fun a o h => by
      unfold frz at h
      cases q : hide O H1 a with
      | none => rw [q] at h; exact s1.ext a o h
      | some o' =>
        rw [q] at h
        cases h
        exact hide_sub a _ q, s1.own, fun l hl hE => fz l (hide_in hl) (s1.new l hl hE), s1.st, fun hm => let ⟨a, b, c⟩ := s1.fd hm; ⟨a, b, fun x hx => fz x (hide_in (s1.sub x (a x hx))) (c x hx)⟩⟩
  have known : ∀ {O' H' σ' ds'}, Sit m S.fa Oe (frz (hide O H1) Fz) O' H' σ' ds' → Same (hide O H1) (hide O H') := fun q a o h => by
    obtain ⟨n1, _⟩ := hide_some h
    rw [hide_out n1]
    exact q.ext a o (fzK a o h)
  have disj : ∀ {O' H' σ' ds'}, Sit m S.fa Oe (frz (hide O H1) Fz) O' H' σ' ds' → ∀ a ∈ O', hide O H1 a = none := fun q a ha => by
    by_cases hE : a ∈ Oe
    · exact hide_in (s1.sub a hE)
    · exact (fzO a (q.new a ha hE)).1
  have hideK : ∀ {O' H' σ' ds'}, Sit m S.fa Oe (frz (hide O H1) Fz) O' H' σ' ds' → Same (hide O H1) H' := fun q a o h => q.ext a o (fzK a o h)
  refine for_it (tb := tsOf S body) (D := { nx := tsOf S rest E, rt := E.rt }) wk (fun i σ' H' => ∃ O' ds', Sit m S.fa Oe (frz (hide O H1) Fz) O' H' σ' ds' ∧ P i ds') ⟨O, ds, s2, h0⟩
    (fun i σ' H' _ ⟨_, _, q, _⟩ => stab H' (known q)) (fun i x σ' H' H3 hi ⟨O', ds', q, hP⟩ y => ?_) (fun σ' H' ⟨O', ds', q, hP⟩ => fin _ _ _ _ (back _ _ _ _ q) (hd ds' hP))
  have hia : items[i]? = some items[i] := by simp [hi]
  refine yl i items[i] H' x H3 σ' _ hia (stab H' (known q)) y fun vs e23 rvs => ?_
  have q3 := q.mono e23
  have em : Same (hide O H1) (hide O' H3) := fun a o h => by
    rw [hide_out (fun z => by rw [disj q a z] at h; cases h)]
    exact hideK q3 a o h
  have q4 := q3.setAll (js := js) (rvs.mono em)
  exact hs i items[i] ds' hia hP Oe (frz (hide O H1) Fz) O' H3 _ q4 _ ⟨fun O'' H'' σ'' ds'' q' hP' => ⟨O'', ds'', q', hP'⟩, fun v d H'' a b c e => hE.rt v d H'' (fzF.trans a) b c e, fun O'' H'' σ'' ds'' q' hM => fin _ _ _ _ (back _ _ _ _ q') hM, fun O'' H'' σ'' ds'' q' hP' => ⟨O'', ds'', q', hP'⟩, fun σ c f v d dx H a b r e x => hE.xs σ c f v d dx H (fzF.trans a) b r e x⟩
theorem js_forRF {tp pos2 : Pos} {x : Str} (ha : JF S ds a fun d => ∃ n : Int, d = .int n ∧ n ≤ 1000000 ∧ -1000000 ≤ n ∧ ∃ P : Nat → List Slot → Prop, P 0 ds ∧
      (∀ (i : Nat) ds', (i : Int) < n → P i ds' → JS S true body (ds'.set j (.val (.int i))) { nx := P (i + 1), ct := P (i + 1), bk := M, rt := D.rt, xs := D.xs }) ∧ (∀ ds', P n.toNat ds' → M ds'))
    (hr : ∀ ds', M ds' → JS S true rest ds' D) (hm : S.mg ("range" : Str) = none) (hg : S.scope.names.lookup ("range" : Str) = some .globalImplicit := by rfl)
    (hN : S.N[j]? = some x := by rfl) (hx : Loc S.scope x := by first | exact Or.inl rfl | exact Or.inr rfl) (hf : S.fn x = true ∨ S.scope.names.lookup x = some .local := by first | exact Or.inl rfl | exact Or.inr rfl)
    (he : ∀ env, starEach [a] env = (false, eval a env) :: starEach [] env := by intro _; rfl) (he2 : ∀ env, starEach [a] env = [(false, eval a env)] := by intro _; rfl) :
    JS S true (.For (.Name x tp) (.Call (.Name "range" p) [a] [] pos2) body [] pos :: rest) ds D := by
  intro Oe Fz O H σ s E hE
  refine ts_cons (ts := tFor (iRng1 (tCons (teOf S a) tNil)) (gName j) (tsOf S body)) (fun X h => ps_for h.ps h.calm (pi_range1 (gl_of h hg) (h.mg ▸ hm) (pa_cons (pe_teOf h) pa_nil (he _)) (he2 _)) (pg_nameS hN hx hf X h) (pss_tsOf h)) ?_
  obtain ⟨fE, fd, _⟩ := s.fd rfl
  refine ha O σ H s.st (upIn s.sub fE) fd _ fun v d H1 e1 f1 r1 hk => ?_
  obtain ⟨n, rfl, hn, hn0, P, h0, hs, hd⟩ := hk
  cases r1
  refine ⟨n, rfl, by omega, by omega, ?_⟩
  have s1 := s.monoF e1 f1
  refine for_sem (g := gName j) (js := [j]) (items := rangeI 0 n) (row := fun i => [.int i]) (Y := YFn fun i => .int (0 + i)) (G := fun _ => True) P s1 hE h0 (fun i a ds' hi hP => ?_) (fun ds' hP => hd ds' (by rw [len_rangeI, show (n - 0).toNat = n.toNat by omega] at hP; exact hP)) hr ?_ (fun _ _ => trivial) ?_
  · have hi2 : i < (rangeI 0 n).length := (List.getElem?_eq_some_iff.mp hi).1
    rw [len_rangeI] at hi2
    have ea : a = (i : Int) := by
      unfold rangeI at hi
      rw [List.getElem?_map] at hi
      have q : (List.range (n - 0).toNat)[i]? = some i := by rw [List.getElem?_range hi2]
      rw [q] at hi
      have hi := Option.some.inj hi
      rw [← hi]
      show (0 : Int) + (i : Int) = (i : Int)
      omega
    subst ea
    exact hs i ds' (by omega) hP
  · rw [len_rangeI, show (n - 0).toNat = n.toNat by omega]
    exact walk_range
  · rintro i a H2 x H3 σ' Q hi _ ⟨rfl, hx⟩ kk
    unfold rangeI at hi
    rw [List.getElem?_map] at hi
    cases q : (List.range (n - 0).toNat)[i]? with
    | none => rw [q] at hi; cases hi
    | some m =>
      rw [q] at hi
      obtain ⟨h1, h2⟩ := List.getElem?_eq_some_iff.mp q
      rw [List.getElem_range] at h2
      subst h2
      cases hi
      subst hx
      exact kk [_] (Same.refl _) (.cons (.int _) .nil)
end

/-! ### a def keeps its promise -/
abbrev FnP (K : PySem.W.Frag) (x : Str) (st : Stmt) (f : Addr) (fd : FuncData)
      : Prop := FunD K x x (defArgs st) (defBody st) (defScope st) [] [] f fd
/-- where a def's body stands -/
abbrev scD (P : Program) (w : World) (K : PySem.W.Frag) (mg : Str → Option Value) (base : Heap) (N : List Str) (st : Stmt) (k : Nat) (g : Bool) (fa : FA) : SC := ⟨P, w, K, mg, base, N, defScope st, fun _ => true, k, g, fa, fun _ _ _ _ => False, none⟩
/-- the slots at the entry -/
def slots (n : Nat) (ss : List Slot) : List Slot := ss ++ List.replicate (n - ss.length) .unk
theorem slots_get {n i : Nat} {ss : List Slot} {s : Slot} (h : (slots n ss)[i]? = some s) : ss[i]? = some s ∨ s = .unk := by
  unfold slots at h
  by_cases hi : i < ss.length
  · rw [List.getElem?_append_left hi] at h
    exact .inl h
  · rw [List.getElem?_append_right (by omega), List.getElem?_replicate] at h
    split at h
    · cases h; exact .inr rfl
    · cases h
theorem start_get {N : List Str} {vs : List V} {i : Nat} (hi : i < vs.length) : (L2.start N vs)[i]? = some (vs[i]?) := by
  unfold L2.start
  rw [List.getElem?_append_left (by rw [List.length_map]; exact hi), List.getElem?_map, List.getElem?_eq_getElem hi]
  rfl
theorem start_len {N : List Str} {vs : List V} (h : vs.length ≤ N.length) : (L2.start N vs).length = N.length := by
  unfold L2.start
  rw [List.length_append,
        List.length_map, List.length_replicate]
  omega
theorem slots_len {n : Nat} {ss : List Slot} (h : ss.length ≤ n) : (slots n ss).length = n := by
  unfold slots
  rw [List.length_append,
        List.length_replicate]
  omega
/-- the entry: ss tell the arguments -/
theorem st_start {fa : FA} {O : List Addr} {H : Hp} {N : List Str} {vs : List V} {ss : List Slot} (dom : ∀ a ∈ O, H a ≠ none) (hl : vs.length = ss.length) (hN : vs.length ≤ N.length)
    (h : ∀ (i : Nat) (s : Slot), ss[i]? = some s → SlotOk fa O H (vs[i]?) s) (hno : ∀ (i : Nat) (xs : List PyData), ss[i]? ≠ some (Slot.own xs)) : StOk fa O H (L2.start N vs) (slots N.length ss) := by
  refine ⟨by rw [start_len hN, slots_len (by omega)], fun i s q => ?_, fun i j xs ys l q1 => ?_, dom⟩
  · rcases slots_get q with q1 | rfl
    · have hi : i <
            vs.length := by
        have := (List.getElem?_eq_some_iff.mp q1).1
        omega
      exact ⟨_, start_get hi, h i s q1⟩
    · have hi : i < (L2.start N vs).length := by
        have := (List.getElem?_eq_some_iff.mp q).1
        rw [slots_len (by omega)] at this
        rw [start_len hN]
        exact this
      exact ⟨_, List.getElem?_eq_getElem hi, trivial⟩
  · rcases slots_get q1 with q | q
    · exact absurd q (hno i xs)
    · cases q
theorem sc_le {N ps : List Str} {sc : Scope} (S : FnScope N ps sc) : ps.length ≤ N.length := by
  have := congrArg List.length S.pre
  rw [List.length_take] at this
  omega
section
variable {P : Program} {w : World} {K : PySem.W.Frag} {mg : Str → Option Value} {base : Heap} {x : Str} {st : Stmt} {f : Addr} {fd : FuncData} {N ps : List Str} {k : Nat}
theorem holds_def {CX : CXT} {cdv : Value} {A : Around} {outer : List Env} {s : Shared} {H : Hp} {E : XK} {fa : FA} (Sc : FnScope N ps (defScope st)) (hr : Room k (A.deeper (envOfC x (defScope st) s.heap.objs.size f cdv))) :
    (scD P w K mg base N st k false fa).Holds (cxOf CX P w K mg base N x (defScope st) f cdv A outer s H E).nox :=
  ⟨rfl, rfl, rfl, rfl, rfl, rfl, Sc.nd, rfl, rfl, rfl, hr, (fun h => by cases h), takesNo, PassesOwn.never, fun _ h => by cases h⟩
theorem fn_pure {R : List PyData → PyData → Prop} {dvs : List V} {kws : List (Str × V)} (F : FunD K x x (defArgs st) (defBody st) (defScope st) dvs kws f fd) (Sc : FnScope N ps (defScope st)) (hlen : ∀ args d, R args d → args.length = ps.length)
    (body : ∀ args d, R args d → ∀ fa, JS (scD P w K mg base N st k false fa) false (defBody st) (slots N.length (args.map .val)) { nx := fun _ => d = .none, rt := fun z => z = d }) :
    FnOk P w K mg base CX0 (k + 1) f fd ps (spP R) := by
  refine F.ok Sc (fun vs H Q E h => ?_) fun cdv A outer s H vs Q E hr h => ?_
  · obtain ⟨O, args, d, _, r, hR, _⟩ := h
    rw [r.len]
    exact hlen _ _ hR
  · obtain ⟨O, args, d, dom, r, hR, kq⟩ := h
    have hH := holds_def (P := P) (w := w) (K := K) (mg := mg) (base := base) (CX := CX0) (outer := outer) (H := H) (E := E) (fa := ⟨0, 0, []⟩) Sc hr
    refine ⟨tsOf (scD P w K mg base N st k false ⟨0, 0, []⟩) (defBody st), PSs.nox (pss_tsOf hH), ?_⟩
    have hla : args.length = ps.length := hlen _ _ hR
    have sit : Sit false ⟨0, 0, []⟩ O H O H (L2.start N vs) (slots N.length (args.map .val)) := by
      refine ⟨fun _ h => h, Same.refl H, fun i xs l q => ?_, fun l h1 h2 => absurd h1 h2, st_start dom (by rw [List.length_map, r.len]) (by rw [r.len, hla]; exact (sc_le Sc)) (fun i s q => ?_) (fun i xs q => ?_), fun h => by cases h⟩
      · rcases slots_get q with q | q
        · rw [List.getElem?_map] at q
          cases z : args[i]? with
          | none => rw [z] at q; cases q
          | some y => rw [z] at q; cases q
        · cases q
      · rw [List.getElem?_map] at q
        cases z : args[i]? with
        | none => rw [z] at q; cases q
        | some y =>
          rw [z] at q
          cases q
          obtain ⟨v, h1, h2⟩ := r.get z
          exact ⟨v, h1, h2⟩
      · rw [List.getElem?_map] at q
        cases z : args[i]? with
        | none => rw [z] at q; cases q
        | some y => rw [z] at q; cases q
    exact body args d hR ⟨0, 0, []⟩ O H O H _ sit _ ⟨fun O' H' σ' ds' q hd => kq _ _ q.ext (by rw [hd]; exact .non), fun v d' H' e _ r' hd => kq _ _ e (by rw [← hd]; exact r'), fun _ _ _ _ _ h => h.elim, fun _ _ _ _ _ h => h.elim, fun _ _ _ _ _ _ _ _ _ _ _ h => h.elim⟩
/-- without the feed -/
def offF (fa : FA) (H : Hp) : Hp := fun a => if a ∈ fa.all then none else H a
theorem fn_feed {R : List PyData → (PyData → Prop) → Prop} (F : FnP K x st f fd) (Sc : FnScope N ps (defScope st)) (hlen : ∀ args Pd, R args Pd → args.length + 1 = ps.length)
    (body : ∀ args Pd, R args Pd → ∀ fa, JS (scD P w K mg base N st k false fa) true (defBody st) (slots N.length (.fd :: args.map .val)) { nx := fun _ => Pd .none, rt := Pd }) :
    FnOk P w K mg base CX0 (k + 1) f fd ps (spF R) := by
  refine F.ok Sc (fun vs H Q E h => ?_) fun cdv A outer s H vs Q E hr h => ?_
  · obtain ⟨fa, O, ws, args, Pd, rfl, _, _, _, r, hR, _⟩ := h
    rw [List.length_cons, r.len]
    exact hlen _ _ hR
  · obtain ⟨fa, O, ws, args, Pd, rfl, hfO, dom, fe, r, hR, kq⟩ := h
    have hH := holds_def (P := P) (w := w) (K := K) (mg := mg) (base := base) (CX := CX0) (outer := outer) (H := H) (E := E) (fa := fa) Sc hr
    refine ⟨tsOf (scD P w K mg base N st k false fa) (defBody st), PSs.nox (pss_tsOf hH), ?_⟩
    have hla : args.length + 1 = ps.length := hlen _ _ hR
    have noOwn : ∀ (i : Nat) (xs : List PyData), (Slot.fd :: args.map Slot.val)[i]? ≠ some (Slot.own xs) := fun i xs q => by
      cases i with
      | zero => cases q
      | succ i =>
        rw [List.getElem?_cons_succ, List.getElem?_map] at q
        cases z : args[i]? with
        | none => rw [z] at q; cases q
        | some y => rw [z] at q; cases q
    have offSame : Same (offF fa H) H := fun a o h => by
      unfold offF at h
      split at h
      · cases h
      · exact h
    have sit : Sit true fa O (offF fa H) O H (L2.start N (.ref fa.ad :: ws)) (slots N.length (.fd :: args.map .val)) := by
      refine ⟨fun _ h => h, offSame, fun i xs l q => ?_, fun l h1 h2 => absurd h1 h2, st_start dom (by rw [List.length_cons, List.length_cons, List.length_map, r.len]) (by rw [List.length_cons, r.len, hla]; exact (sc_le Sc)) (fun i s q => ?_) noOwn, fun _ => ⟨hfO, fe, fun a ha => if_pos ha⟩⟩
      · rcases slots_get q with q | q
        · exact absurd q (noOwn i xs)
        · cases q
      · cases i with
        | zero => cases q; rfl
        | succ i =>
          rw [List.getElem?_cons_succ, List.getElem?_map] at q
          cases z : args[i]? with
          | none => rw [z] at q; cases q
          | some y =>
            rw [z] at q
            cases q
            obtain ⟨v, h1, h2⟩ := r.get z
            exact ⟨v, h1, h2⟩
    have back : ∀ H', Same (offF fa H) H' → SameF fa H H' := fun H' e a o n h => e a o (by unfold offF; rw [if_neg n]; exact h)
    exact body args Pd hR fa O (offF fa H) O H _ sit _ ⟨fun O' H' σ' ds' q hd => kq _ _ _ (back _ q.ext) ((q.fd rfl).2.1.sub q.sub) .non hd, fun v d' H' e f' r' hd => kq _ _ _ (back _ e) (f' rfl) r' hd, fun _ _ _ _ _ h => h.elim, fun _ _ _ _ _ h => h.elim, fun _ _ _ _ _ _ _ _ _ _ _ h => h.elim⟩
/-- a def stands where it is called by its name -/
theorem cal_of {sp : Sp} {n : Nat} (F : FnP K x st f fd) (ok : FnOk P w K mg base CX0 n f fd ps sp) (hm : mg x = some (.ref f))
    (hb : ∀ (kV doc pm : Value) (an : Option Addr) (cdv ct : Value) (us : List Value), us.length = ps.length → bindArgs (PySem.W.fnOf x x (defArgs st) (defBody st) (defScope st) .none kV doc pm an cdv ct) ⟨us, []⟩ = pure (ps.zip us)) : Cal P w K mg base x n sp :=
  ⟨f, fd, ps, ok, hm, F.kp, F.bindsN hb⟩
end
end Sh


set_option Elab.async false
set_option linter.all false
set_option maxRecDepth 100000
set_option maxHeartbeats 40000000
set_option autoImplicit false
/-! J8: operators and built-in calls by data -/
namespace Sh
open PySem PySem.Spec
      PyProof.Rows L2
/-! ### operators -/
section
variable {S : SC} {ds : List Slot} {a b c e : Expr} {x y z d : PyData} {xs ys : List PyData} {pos p : Pos} {i j l : Int} {k : Bool} {s t : Str}
theorem je_add (ha : JE S ds a (.int i)) (hb : JE S ds b (.int j)) : JE S ds (.BinOp a .Add b pos) (.int (i + j)) := je_op (fun X h => op_add) ha hb rd_I0
theorem je_sub (ha : JE S ds a (.int i)) (hb : JE S ds b (.int j)) : JE S ds (.BinOp a .Sub b pos) (.int (i - j)) := je_op (fun X h => op_sub) ha hb rd_I0
theorem je_mul (ha : JE S ds a (.int i)) (hb : JE S ds b (.int j)) (hc : CMul i j) : JE S ds (.BinOp a .Mult b pos) (.int (i * j)) := je_op (fun X h => op_mul) ha hb (rd_I hc)
theorem je_mod (ha : JE S ds a (.int i)) (hb : JE S ds b (.int j)) (hc : 0 < j) : JE S ds (.BinOp a .Mod b pos) (.int (i % j)) := je_op (fun X h => op_mod) ha hb (rd_I hc)
theorem je_fdiv (ha : JE S ds a (.int i)) (hb : JE S ds b (.int j)) (hc : CDiv i j) : JE S ds (.BinOp a .FloorDiv b pos) (.int (i / j)) := je_op (fun X h => op_fdiv) ha hb (rd_I hc)
theorem je_pow (ha : JE S ds a (.int i)) (hb : JE S ds b (.int j)) (hc : CPow i j) : JE S ds (.BinOp a .Pow b pos) (.int (i ^ j.toNat)) := je_op (fun X h => op_pow) ha hb (rd_I hc)
theorem rd_cat (hl : xs.length + ys.length ≤ 1000000) : RD2 rCat (.list xs) (.list ys) (.list (xs ++ ys)) := fun O H v w dom r1 r2 Q kq => by
  cases r1 with
  | lst h1 rs1 =>
    cases r2 with
    | lst h2 rs2 =>
      refine ⟨_, _, _, _, rfl, rfl, hide_sub _ _ h1, hide_sub _ _ h2, le_line (by rw [rs1.len, rs2.len]; exact hl), fun q hq => ?_⟩
      exact kq _ _ (Same.upd_new hq) (new_rp dom hq (rs1.append rs2))
theorem je_cat (ha : JE S ds a (.list xs)) (hb : JE S ds b (.list ys)) (hl : xs.length + ys.length ≤ 1000000) : JE S ds (.BinOp a .Add b pos) (.list (xs ++ ys)) := je_op (fun X h => op_cat) ha hb (rd_cat hl)
theorem rpAll_rep {H : Hp} {vs : List V} {xs : List PyData} (r : RpAll H vs xs) : ∀ n : Nat, RpAll H (List.replicate n vs).flatten (List.replicate n xs).flatten
  | 0 => .nil
  | n + 1 => by
    rw [List.replicate_succ, List.replicate_succ,
          List.flatten_cons, List.flatten_cons]
    exact r.append (rpAll_rep r n)
theorem je_repL (ha : JE S ds a (.list [x])) (hb : JE S ds b (.int i)) (hi : i ≤ 1000000) (hi0 : -1000000 ≤ i) : JE S ds (.BinOp a .Mult b pos) (.list (List.replicate i.toNat x)) := by
  refine je_op (fun X h => op_rep) ha hb fun O H v w dom r1 r2 Q kq => ?_
  cases r2
  cases r1 with
  | lst h1 rs1 =>
    have e := rpAll_rep rs1 i.toNat
    refine ⟨_, _, _, rfl, rfl, hide_sub _ _ h1, by omega, by omega, le_line (by rw [rs1.len]; simp only [List.length_singleton]; omega), fun q hq => ?_⟩
    have ef : (List.replicate i.toNat [x]).flatten = List.replicate i.toNat x := by
      generalize i.toNat = n
      induction n with
      | zero => rfl
      | succ n ih => rw [List.replicate_succ, List.flatten_cons, ih]; rfl
    rw [ef] at e
    exact kq _ _ (Same.upd_new hq) (new_rp dom hq e)
/-! ### comparisons -/
theorem je_eqI (ha : JE S ds a (.int i)) (hb : JE S ds b (.int j)) : JE S ds (.Compare a [.Eq] [b] pos) (.bool (decide (i = j))) := je_cmpR (fun X h => op_eq) ha hb (nomark _) rd_eqI
theorem je_neI (ha : JE S ds a (.int i)) (hb : JE S ds b (.int j)) : JE S ds (.Compare a [.NotEq] [b] pos) (.bool (decide (i ≠ j))) := je_cmpR (fun X h => op_ne) ha hb (nomark _) rd_neI
theorem je_lt (ha : JE S ds a (.int i)) (hb : JE S ds b (.int j)) : JE S ds (.Compare a [.Lt] [b] pos) (.bool (decide (i < j))) := je_cmpR (fun X h => op_lt) ha hb (nomark _) rd_B0
theorem je_le (ha : JE S ds a (.int i)) (hb : JE S ds b (.int j)) : JE S ds (.Compare a [.LtE] [b] pos) (.bool (decide (i ≤ j))) := je_cmpR (fun X h => op_le) ha hb (nomark _) rd_B0
theorem je_gt (ha : JE S ds a (.int i)) (hb : JE S ds b (.int j)) : JE S ds (.Compare a [.Gt] [b] pos) (.bool (decide (j < i))) := je_cmpR (fun X h => op_gt) ha hb (nomark _) rd_B0
theorem je_ge (ha : JE S ds a (.int i)) (hb : JE S ds b (.int j)) : JE S ds (.Compare a [.GtE] [b] pos) (.bool (decide (j ≤ i))) := je_cmpR (fun X h => op_ge) ha hb (nomark _) rd_B0
theorem jt_eqI (ha : JE S ds a (.int i)) (hb : JE S ds b (.int j)) : JT S ds (.Compare a [.Eq] [b] pos) (decide (i = j)) := jt_cmpR (fun X h => op_eq) ha hb (nomark _) rd_eqI
theorem jt_neI (ha : JE S ds a (.int i)) (hb : JE S ds b (.int j)) : JT S ds (.Compare a [.NotEq] [b] pos) (decide (i ≠ j)) := jt_cmpR (fun X h => op_ne) ha hb (nomark _) rd_neI
theorem jt_lt (ha : JE S ds a (.int i)) (hb : JE S ds b (.int j)) : JT S ds (.Compare a [.Lt] [b] pos) (decide (i < j)) := jt_cmpR (fun X h => op_lt) ha hb (nomark _) rd_B0
theorem jt_le (ha : JE S ds a (.int i)) (hb : JE S ds b (.int j)) : JT S ds (.Compare a [.LtE] [b] pos) (decide (i ≤ j)) := jt_cmpR (fun X h => op_le) ha hb (nomark _) rd_B0
theorem jt_gt (ha : JE S ds a (.int i)) (hb : JE S ds b (.int j)) : JT S ds (.Compare a [.Gt] [b] pos) (decide (j < i)) := jt_cmpR (fun X h => op_gt) ha hb (nomark _) rd_B0
theorem jt_ge (ha : JE S ds a (.int i)) (hb : JE S ds b (.int j)) : JT S ds (.Compare a [.GtE] [b] pos) (decide (j ≤ i)) := jt_cmpR (fun X h => op_ge) ha hb (nomark _) rd_B0
theorem jt_eqS (ha : JE S ds a (.str s)) (hb : JE S ds b (.str t)) : JT S ds (.Compare a [.Eq] [b] pos) (decide (s = t)) := jt_cmpR (fun X h => op_eq) ha hb (nomark _) rd_eqS
theorem je_eqS (ha : JE S ds a (.str s)) (hb : JE S ds b (.str t)) : JE S ds (.Compare a [.Eq] [b] pos) (.bool (decide (s = t))) := je_cmpR (fun X h => op_eq) ha hb (nomark _) rd_eqS
theorem jt_neS (ha : JE S ds a (.str s)) (hb : JE S ds b (.str t)) : JT S ds (.Compare a [.NotEq] [b] pos) (decide (s ≠ t)) := jt_cmpR (fun X h => op_ne) ha hb (nomark _) rd_neS
theorem je_isN {n : Nat} (ha : JE S ds a x) : JE S ds (.Compare a [.Is] [.Constant .none n p] pos) (.bool (isNone x)) := je_cmpR (fun X h => op_isN) ha je_non (nomark _) (rd_isN rfl)
theorem je_notN {n : Nat} (ha : JE S ds a x) : JE S ds (.Compare a [.IsNot] [.Constant .none n p] pos) (.bool (!isNone x)) := je_cmpR (fun X h => op_notN) ha je_non (nomark _) (rd_notN rfl)
theorem jt_isN {n : Nat} (ha : JE S ds a x) : JT S ds (.Compare a [.Is] [.Constant .none n p] pos) (isNone x) := jt_cmpR (fun X h => op_isN) ha je_non (nomark _) (rd_isN rfl)
theorem jt_notN {n : Nat} (ha : JE S ds a x) : JT S ds (.Compare a [.IsNot] [.Constant .none n p] pos) (!isNone x) := jt_cmpR (fun X h => op_notN) ha je_non (nomark _) (rd_notN rfl)
/-- data that == and repr take: nested n deep -/
def okD : Nat → PyData → Bool
  | _, .none => true
  | _, .bool _ => true
  | _, .int _ => true
  | _, .str s => PyData.strOk s
  | n + 1, .list xs => xs.all (okD n)
  | n + 1, .tuple xs => xs.all (okD n)
  | _, _ => false
theorem canAll : ∀ {xs : List PyData}, (∀ x ∈ xs, PyData.canLay0 x = true) → PyData.canLayAll0 xs = true
  | [], _ => by unfold PyData.canLayAll0; rfl
  | x :: xs, h => by
    unfold PyData.canLayAll0
    rw [h x List.mem_cons_self, canAll fun y hy => h y (List.mem_cons_of_mem _ hy)]
    rfl
theorem depAll {n : Nat} : ∀ {xs : List PyData}, (∀ x ∈ xs, PyData.depth x ≤ n) → PyData.depthAll xs ≤ n
  | [], _ => by unfold PyData.depthAll; omega
  | x :: xs, h => by
    unfold PyData.depthAll
    have h1 := h x List.mem_cons_self
    have h2 := depAll (xs := xs) fun y hy => h y (List.mem_cons_of_mem _ hy)
    omega
theorem okD_can : ∀ (n : Nat) (d : PyData), okD n d = true → PyData.canLay0 d = true ∧ PyData.depth d ≤ n := by
  intro n
  induction n with
  | zero =>
    intro d h
    cases d with
    | none => exact ⟨by unfold PyData.canLay0; rfl, by unfold PyData.depth; omega⟩
    | bool b => exact ⟨by unfold PyData.canLay0; rfl, by unfold PyData.depth; omega⟩
    | int i => exact ⟨by unfold PyData.canLay0; rfl, by unfold PyData.depth; omega⟩
    | str s => exact ⟨by unfold PyData.canLay0; exact h, by unfold PyData.depth; omega⟩
    | list xs => cases h
    | tuple xs => cases h
    | dict kvs => cases h
  | succ n ih =>
    intro d h
    cases d with
    | none => exact ⟨by unfold PyData.canLay0; rfl, by unfold PyData.depth; omega⟩
    | bool b => exact ⟨by unfold PyData.canLay0; rfl, by unfold PyData.depth; omega⟩
    | int i => exact ⟨by unfold PyData.canLay0; rfl, by unfold PyData.depth; omega⟩
    | str s => exact ⟨by unfold PyData.canLay0; exact h, by unfold PyData.depth; omega⟩
    | list xs =>
      have h' : ∀ x ∈ xs, okD n x = true := List.all_eq_true.mp h
      refine ⟨by unfold PyData.canLay0; exact canAll fun x hx => (ih x (h' x hx)).1, ?_⟩
      unfold PyData.depth
      have := depAll (n := n) (xs := xs) fun x hx => (ih x (h' x hx)).2
      omega
    | tuple xs =>
      have h' : ∀ x ∈ xs, okD n x = true := List.all_eq_true.mp h
      refine ⟨by unfold PyData.canLay0; exact canAll fun x hx => (ih x (h' x hx)).1, ?_⟩
      unfold PyData.depth
      have := depAll (n := n) (xs := xs) fun x hx => (ih x (h' x hx)).2
      omega
    | dict kvs => cases h
theorem shaped_of {n : Nat} {d : PyData} (h : okD n d = true) (hn : n ≤ 60 := by decide) : SeqAt.shaped d = true := by
  obtain ⟨h1, h2⟩ := okD_can n d h
  unfold SeqAt.shaped
  rw [h1, decide_eq_true (by omega)]
  rfl
theorem rd_eqD {K : PySem.W.Frag} (h1 : SeqAt.shaped x = true) (h2 : SeqAt.shaped y = true) : RD2 (rEqD K) x y (.bool (PyData.eqv x y)) := fun O H v w dom r1 r2 Q kq =>
  ⟨x, y, (r1.mono hide_sub).dp, (r2.mono hide_sub).dp, h1, h2, kq _ H (Same.refl H) (.bl _)⟩
theorem rd_neD {K : PySem.W.Frag} (h1 : SeqAt.shaped x = true) (h2 : SeqAt.shaped y = true) : RD2 (rNeD K) x y (.bool (!PyData.eqv x y)) := fun O H v w dom r1 r2 Q kq =>
  ⟨x, y, (r1.mono hide_sub).dp, (r2.mono hide_sub).dp, h1, h2, kq _ H (Same.refl H) (.bl _)⟩
theorem je_eqD (n : Nat) (ha : JE S ds a x) (hb : JE S ds b y) (h1 : okD n x = true) (h2 : okD n y = true) (hn : n ≤ 60 := by decide) : JE S ds (.Compare a [.Eq] [b] pos) (.bool (PyData.eqv x y)) :=
  je_cmpR (r := rEqD S.K) (fun X h => by rw [← h.K]; exact op_eqD h.room.units) ha hb (nomark _) (rd_eqD (shaped_of h1 hn) (shaped_of h2 hn))
theorem jt_eqD (n : Nat) (ha : JE S ds a x) (hb : JE S ds b y) (h1 : okD n x = true) (h2 : okD n y = true) (hn : n ≤ 60 := by decide) : JT S ds (.Compare a [.Eq] [b] pos) (PyData.eqv x y) :=
  jt_cmpR (r := rEqD S.K) (fun X h => by rw [← h.K]; exact op_eqD h.room.units) ha hb (nomark _) (rd_eqD (shaped_of h1 hn) (shaped_of h2 hn))
theorem je_neD (n : Nat) (ha : JE S ds a x) (hb : JE S ds b y) (h1 : okD n x = true) (h2 : okD n y = true) (hn : n ≤ 60 := by decide) : JE S ds (.Compare a [.NotEq] [b] pos) (.bool (!PyData.eqv x y)) :=
  je_cmpR (r := rNeD S.K) (fun X h => by rw [← h.K]; exact op_neD h.room.units) ha hb (nomark _) (rd_neD (shaped_of h1 hn) (shaped_of h2 hn))
theorem jt_neD (n : Nat) (ha : JE S ds a x) (hb : JE S ds b y) (h1 : okD n x = true) (h2 : okD n y = true) (hn : n ≤ 60 := by decide) : JT S ds (.Compare a [.NotEq] [b] pos) (!PyData.eqv x y) :=
  jt_cmpR (r := rNeD S.K) (fun X h => by rw [← h.K]; exact op_neD h.room.units) ha hb (nomark _) (rd_neD (shaped_of h1 hn) (shaped_of h2 hn))
theorem eqv_nilL {xs : List PyData} : PyData.eqv (.list xs) (.list []) = xs.isEmpty := by cases xs <;> simp [PyData.eqv, PyData.eqvAll]
theorem eqv_nilT {xs : List PyData} : PyData.eqv (.tuple xs) (.tuple []) = xs.isEmpty := by cases xs <;> simp [PyData.eqv, PyData.eqvAll]
/-! ### in, not in: flat things -/
def flatD : PyData → Bool
  | .none => true
  | .bool _ => true
  | .int _ => true
  | .str _ => true
  | _ => false
theorem Rp.flat {H : Hp} {v : V} {d : PyData} (r : Rp H v d) (h : flatD d = true) : flatV v = true := by
  cases r with
  | non => rfl
  | bl b => rfl
  | int i => rfl
  | str s => rfl
  | lst _ _ => cases h
  | tup _ _ => cases h
theorem Rp.eqvF {H : Hp} {v w : V} {d e : PyData} (r : Rp H v d) (r2 : Rp H w e) (h : flatD d = true) (h2 : flatD e = true) : eqV v w = PyData.eqv d e := by
  cases r with
  | non => cases r2 <;> first | rfl | (simp [eqV, PyData.eqv]; done) | cases h2
  | bl b => cases r2 <;> first | rfl | (simp [eqV, PyData.eqv]; done) | cases h2
  | int i => cases r2 <;> first | rfl | (simp [eqV, PyData.eqv]; done) | cases h2
  | str s => cases r2 <;> first | rfl | (simp [eqV, PyData.eqv]; done) | cases h2
  | lst _ _ => cases h
  | tup _ _ => cases h
theorem inV_of {H : Hp} {v : V} {d : PyData} (r : Rp H v d) (hd : flatD d = true) : ∀ {vs : List V} {xs : List PyData}, RpAll H vs xs → xs.all flatD = true → inV v vs = xs.any (fun y => PyData.eqv y d) ∧ vs.all flatV = true
  | _, _, .nil, _ => ⟨rfl, rfl⟩
  | _, _, .cons (v := w) (vs := ws) (d := y) (ds := ys) q qs, h => by
    rw [List.all_cons,
          Bool.and_eq_true] at h
    obtain ⟨i1, i2⟩ := inV_of r hd qs h.2
    refine ⟨?_, ?_⟩
    · unfold inV at i1 ⊢
      rw [List.any_cons, List.any_cons, i1, q.eqvF r h.1 hd]
    · rw [List.all_cons, q.flat h.1, i2]; rfl
theorem rd_in {K : PySem.W.Frag} {neg : Bool} (hq : IsSeq y ys) (hx : flatD x = true) (hy : ys.all flatD = true) : RD2 (rIn K neg) x y (.bool (if neg then !(ys.any fun z => PyData.eqv z x) else ys.any fun z => PyData.eqv z x)) := fun O H v w dom r1 r2 Q kq => by
  obtain ⟨q, vs, rfl, rs, hs⟩ := r2.seq (K := K) hq
  obtain ⟨i1, i2⟩ := inV_of r1 hx rs hy
  refine ⟨q, vs, rfl, hs, r1.flat hx, i2, ?_⟩
  rw [i1]
  exact kq _ H (Same.refl H) (.bl _)
theorem je_in (ha : JE S ds a x) (hb : JE S ds b y) (hq : IsSeq y ys) (hx : flatD x = true) (hy : ys.all flatD = true) (hm : behindInMarks .In b = false := by rfl) : JE S ds (.Compare a [.In] [b] pos) (.bool (ys.any fun z => PyData.eqv z x)) :=
  je_cmpR (r := rIn S.K false) (fun X h => by rw [← h.K]; exact op_in_seq) ha hb hm (rd_in hq hx hy)
theorem je_notIn (ha : JE S ds a x) (hb : JE S ds b y) (hq : IsSeq y ys) (hx : flatD x = true) (hy : ys.all flatD = true) (hm : behindInMarks .NotIn b = false := by rfl) : JE S ds (.Compare a [.NotIn] [b] pos) (.bool (!(ys.any fun z => PyData.eqv z x))) :=
  je_cmpR (r := rIn S.K true) (fun X h => by rw [← h.K]; exact op_notIn_seq) ha hb hm (rd_in hq hx hy)
theorem jt_in (ha : JE S ds a x) (hb : JE S ds b y) (hq : IsSeq y ys) (hx : flatD x = true) (hy : ys.all flatD = true) (hm : behindInMarks .In b = false := by rfl) : JT S ds (.Compare a [.In] [b] pos) (ys.any fun z => PyData.eqv z x) :=
  jt_cmpR (r := rIn S.K false) (fun X h => by rw [← h.K]; exact op_in_seq) ha hb hm (rd_in hq hx hy)
theorem jt_notIn (ha : JE S ds a x) (hb : JE S ds b y) (hq : IsSeq y ys) (hx : flatD x = true) (hy : ys.all flatD = true) (hm : behindInMarks .NotIn b = false := by rfl) : JT S ds (.Compare a [.NotIn] [b] pos) (!(ys.any fun z => PyData.eqv z x)) :=
  jt_cmpR (r := rIn S.K true) (fun X h => by rw [← h.K]; exact op_notIn_seq) ha hb hm (rd_in hq hx hy)
end
/-! ### built-in calls -/
theorem rdc1 {r : List V → Hp → VK → Prop} {x z : PyData} (h : ∀ (O : List Addr) (H : Hp) (v : V), (∀ a ∈ O, H a ≠ none) → Rp (hide O H) v x → ∀ Q : VK, (∀ u H', Same H H' → Rp (hide O H') u z → Q u H') → r [v] H Q) : RDC r [x] z := fun O H vs dom rs Q k => by
  cases rs with
  | cons q qs => cases qs; exact h O H _ dom q Q k
section
variable {S : SC} {ds : List Slot} {a b c e : Expr} {x y z d : PyData} {xs ys : List PyData} {pos p : Pos} {i j l : Int} {k : Bool} {s t : Str}
theorem je_len (ha : JE S ds a x) (hq : IsSeq x xs) (hm : S.mg ("len" : Str) = none) (hg : S.scope.names.lookup ("len" : Str) = some .globalImplicit := by rfl)
    (he : ∀ env, starEach [a] env = (false, eval a env) :: starEach [] env := by intro _; rfl) : JE S ds (.Call (.Name "len" p) [a] [] pos) (.int (xs.length : Nat)) := by
  refine je_callB (r := fun vs H Q => ∃ p ys, vs = [.ref p] ∧ (SqL S.K H p ys ∨ SqT S.K H p ys) ∧ Q (.int ys.length) H) (fun X h => by rw [← h.K]; exact call_len_seq) hm PySem.boot_len (ja_cons ha ja_nil he) (rdc1 fun O H v dom r Q kq => ?_) hg (by decide) (by decide) he
  obtain ⟨q, vs, rfl, rs, hs⟩ := r.seq (K := S.K) hq
  refine ⟨q, vs, rfl, hs, ?_⟩
  rw [rs.len]
  exact kq _ H (Same.refl H) (.int _)
theorem je_int1 (ha : JE S ds a (.int i)) (hm : S.mg ("int" : Str) = none) (hg : S.scope.names.lookup ("int" : Str) = some .globalImplicit := by rfl)
    (he : ∀ env, starEach [a] env = (false, eval a env) :: starEach [] env := by intro _; rfl) : JE S ds (.Call (.Name "int" p) [a] [] pos) (.int i) := by
  refine je_callTy (fun X h => call_int1) hm (by decide +kernel) (ja_cons ha ja_nil he) (rdc1 fun O H v dom r Q kq => ?_) hg (by decide) (by decide) he
  cases r
  exact .inl ⟨i, rfl, kq _ H (Same.refl H) (.int _)⟩
theorem je_intB (ha : JE S ds a (.bool k)) (hm : S.mg ("int" : Str) = none) (hg : S.scope.names.lookup ("int" : Str) = some .globalImplicit := by rfl)
    (he : ∀ env, starEach [a] env = (false, eval a env) :: starEach [] env := by intro _; rfl) : JE S ds (.Call (.Name "int" p) [a] [] pos) (.int (if k then 1 else 0)) := by
  refine je_callTy (fun X h => call_int1) hm (by decide +kernel) (ja_cons ha ja_nil he) (rdc1 fun O H v dom r Q kq => ?_) hg (by decide) (by decide) he
  cases r
  exact .inr ⟨k, rfl, kq _ H (Same.refl H) (.int _)⟩
theorem je_tupleL (ha : JE S ds a (.list xs)) (hm : S.mg ("tuple" : Str) = none) (hg : S.scope.names.lookup ("tuple" : Str) = some .globalImplicit := by rfl)
    (he : ∀ env, starEach [a] env = (false, eval a env) :: starEach [] env := by intro _; rfl) : JE S ds (.Call (.Name "tuple" p) [a] [] pos) (.tuple xs) := by
  refine je_callTy (r := fun vs H Q => ∃ p ys, vs = [.ref p] ∧ ((SqL S.K H p ys ∧ ∀ l, H l = none → Q (.ref l) (upd H l (.tup ys))) ∨ (SqT S.K H p ys ∧ Q (.ref p) H))) (fun X h => by rw [← h.K]; exact call_tuple_of) hm (by decide +kernel) (ja_cons ha ja_nil he) (rdc1 fun O H v dom r Q kq => ?_) hg (by decide) (by decide) he
  cases r with
  | lst h rs => exact ⟨_, _, rfl, .inl ⟨SqL.of (hide_sub _ _ h), fun q hq => kq _ _ (Same.upd_new hq) (new_rpT dom hq rs)⟩⟩
/-- tuple of a list that is written -/
theorem je_tupleO {n : Nat} (hi : ds[n]? = some (.own xs)) (hm : S.mg ("tuple" : Str) = none) (hN : S.N[n]? = some t := by rfl) (hg : S.scope.names.lookup ("tuple" : Str) = some .globalImplicit := by rfl)
    (hv : Vis S.scope t := by first | exact Or.inl rfl | exact Or.inr (Or.inl rfl) | exact Or.inr (Or.inr rfl)) (h1 : (t == ("__debug__" : Str)) = false := by decide) (h2 : (t == ("__classdict__" : Str)) = false := by decide) {p1 : Pos} : JE S ds (.Call (.Name "tuple" p) [.Name t p1] [] pos) (.tuple xs) := by
  intro O σ H st Q kq
  obtain ⟨l, vs, hl1, lO, hl2, rl⟩ := st.ownAt hi
  refine te_mk (t := tCB (fun vs H Q => ∃ p ys, vs = [.ref p] ∧ ((SqL S.K H p ys ∧ ∀ l, H l = none → Q (.ref l) (upd H l (.tup ys))) ∨ (SqT S.K H p ys ∧ Q (.ref p) H))) (tCons (tVar n) tNil))
    (fun X h => by rw [← h.K]; exact pe_callTy call_tuple_of (gl_of h hg) (h.mg ▸ hm) (by decide +kernel) (pa_cons (pe_var (i := n) (h.N ▸ hN) (h.scope ▸ hv) h1 h2) pa_nil)) ?_
  exact ⟨_, hl1, l, vs, rfl, .inl ⟨SqL.of hl2, fun q hq => kq _ _ (Same.upd_new hq) (new_rpT st.dom hq rl)⟩⟩
theorem je_listS (ha : JE S ds a x) (hq : IsSeq x xs) (hm : S.mg ("list" : Str) = none) (hg : S.scope.names.lookup ("list" : Str) = some .globalImplicit := by rfl)
    (he : ∀ env, starEach [a] env = (false, eval a env) :: starEach [] env := by intro _; rfl) : JE S ds (.Call (.Name "list" p) [a] [] pos) (.list xs) := by
  refine je_callTy (r := fun vs H Q => ∃ p ys, vs = [.ref p] ∧ (SqL S.K H p ys ∨ SqT S.K H p ys) ∧ ∀ l, H l = none → Q (.ref l) (upd H l (.lst ys))) (fun X h => by rw [← h.K]; exact call_list_of) hm (by decide +kernel) (ja_cons ha ja_nil he) (rdc1 fun O H v dom r Q kq => ?_) hg (by decide) (by decide) he
  obtain ⟨q, vs, rfl, rs, hs⟩ := r.seq (K := S.K) hq
  exact ⟨q, vs, rfl, hs, fun q hq => kq _ _ (Same.upd_new hq) (new_rp dom hq rs)⟩
/-- list(range(n)), still to be written -/
theorem jn_listRg {p1 p2 : Pos} {n : Int} (ha : JE S ds a (.int n)) (hn : 0 ≤ n ∧ n ≤ 1000000) (hm : S.mg ("list" : Str) = none) (hm2 : S.mg ("range" : Str) = none) (hg : S.scope.names.lookup ("list" : Str) = some .globalImplicit := by rfl) (hg2 : S.scope.names.lookup ("range" : Str) = some .globalImplicit := by rfl)
    (he : ∀ env, starEach [a] env = (false, eval a env) :: starEach [] env := by intro _; rfl) : JN S ds (.Call (.Name "list" p) [.Call (.Name "range" p1) [a] [] p2] [] pos) ((rangeI 0 n).map .int) := by
  intro O σ H st Q kq
  refine te_mk (t := tLstRg (tRg1 (teOf S a))) (fun X h => pe_listRg h.calm (gl_of h hg) (h.mg ▸ hm) (prg_1 (gl_of h hg2) (h.mg ▸ hm2) (pe_teOf h) (he _))) ?_
  refine ha O σ H st _ fun v H1 e1 r1 => ?_
  cases r1
  refine ⟨n, rfl, RgOk.of_le (by omega) (by omega) (by omega) (by omega), fun q hq => ?_⟩
  refine kq q _ _ (fresh_of e1 hq) (e1.trans (Same.upd_new hq)) upd_same ?_
  have e : rgV 0 n = (rangeI 0 n).map V.int := by unfold rgV rangeI; rw [List.map_map]; rfl
  rw [e]
  exact .of_ints _
/-- isinstance(x, T), T a built-in class -/
def tyD : PyData → String
  | .none => "NoneType"
  | .bool _ => "bool"
  | .int _ => "int"
  | .str _ => "str"
  | .list _ => "list"
  | .tuple _ => "tuple"
  | .dict _ => "dict"
theorem je_isi {T : String} {Ts : Str} {p1 : Pos} (ha : JE S ds a x) (hk : kitB (tyD x) T = some k) (hm : S.mg ("isinstance" : Str) = none) (hmT : S.mg Ts = none) (hb : bootBuiltins Ts = some (.type T)) (hg : S.scope.names.lookup ("isinstance" : Str) = some .globalImplicit := by rfl)
    (hgT : S.scope.names.lookup Ts = some .globalImplicit := by rfl) (h1 : Ts ≠ "__name__" := by decide) (h2 : (Ts == ("__debug__" : Str)) = false := by decide)
    (he : ∀ env, starEach [a, .Name Ts p1] env = (false, eval a env) :: starEach [.Name Ts p1] env := by intro _; rfl) : JE S ds (.Call (.Name "isinstance" p) [a, .Name Ts p1] [] pos) (.bool k) := by
  intro O σ H st Q kq
  refine te_mk (t := tCB (rIsi S.K) (tCons (teOf S a) (tCons (tC (.ty T)) tNil))) (fun X h => by
    rw [← h.K]
    exact pe_callB call_isi (gl_of h hg) (h.mg ▸ hm) (by decide +kernel) (pa_cons (pe_teOf h) (pa_cons (pe_bltn (gl_of h hgT) (h.mg ▸ hmT) hb (show RelV (.ty T) (.type T) from rfl) h1 h2) pa_nil) (he _)) (by decide) (by decide) (he _)) ?_
  refine ha O σ H st _ fun v H1 e1 r1 => ?_
  have ty : TyX S.K H1 v (.type (tyD x)) := by
    cases r1 with
    | non => exact .base .non
    | bl b => exact .base (.bl b)
    | int i => exact .base (.int i)
    | str s => exact .base (.str s)
    | lst h _ => exact .base (.lst (hide_sub _ _ h))
    | tup h _ => exact .base (.tup (hide_sub _ _ h))
  exact ⟨v, .ty T, _, _, k, rfl, .ty T, ty, kit_ty hk, kq _ H1 e1 (.bl _)⟩
theorem je_all {bs : List Bool} (ha : JE S ds a (.list (bs.map .bool))) (hm : S.mg ("all" : Str) = none) (hg : S.scope.names.lookup ("all" : Str) = some .globalImplicit := by rfl)
    (he : ∀ env, starEach [a] env = (false, eval a env) :: starEach [] env := by intro _; rfl) : JE S ds (.Call (.Name "all" p) [a] [] pos) (.bool (bs.all id)) := by
  refine je_callB (r := rAll S.K) (fun X h => by rw [← h.K]; exact cr_all h.calm) hm (by decide +kernel) (ja_cons ha ja_nil he) (rdc1 fun O H v dom r Q kq => ?_) hg (by decide) (by decide) he
  cases r with
  | lst h rs =>
    rw [rs.bools] at h
    exact ⟨_, bs, rfl, SqL.of (hide_sub _ _ h), kq _ H (Same.refl H) (.bl _)⟩
theorem je_sumL {ns : List Int} (ha : JE S ds a (lstE .int ns)) (hm : S.mg ("sum" : Str) = none) (hg : S.scope.names.lookup ("sum" : Str) = some .globalImplicit := by rfl)
    (he : ∀ env, starEach [a] env = (false, eval a env) :: starEach [] env := by intro _; rfl) : JE S ds (.Call (.Name "sum" p) [a] [] pos) (.int ns.sum) := by
  refine je_callB (r := rSum S.K) (fun X h => by rw [← h.K]; exact cr_sum h.calm) hm (by decide +kernel) (ja_cons ha ja_nil he) (rdc1 fun O H v dom r Q kq => ?_) hg (by decide) (by decide) he
  cases r with
  | lst h rs =>
    rw [rs.ints] at h
    exact ⟨_, ns, rfl, SqL.of (hide_sub _ _ h), kq _ H (Same.refl H) (.int _)⟩
def rSumT (K : PySem.W.Frag) : List V → Hp → VK → Prop := fun vs H Q => ∃ (a : Addr) (ns : List Int), vs = [V.ref a] ∧ SqT K H a (ns.map V.int) ∧ Q (.int ns.sum) H
theorem cr_sumT {X : Cx} (hc : X.calm = true) : CallR X (.builtin "sum") (rSumT X.K) := by
  intro pins s σ
        H vs us Q I r h
  obtain ⟨a, ns,
        rfl, hs, q⟩ := h
  obtain ⟨its, rv, hl, _⟩ := I.tuple hs
  rw [Vals.ref1 r]
  have hi := intsAre_of rv
  obtain ⟨xs, e⟩ :=
        hi.allInts.items
  have hn : numsOf (intItems xs).toList
        = ns := by rw [← e]; exact hi.numsOf
  rw [nums_intItems] at hn
  have hl' : s.heap.IsTuple a its.toArray := hl
  rw [e] at hl'
  refine PySem.W.ktm_sumG (I.ok.hd hc) hl' fun h' tk t' hk => ?_
  rw [preSum_eq, List.take_of_length_le
        (by simp), hn]
  exact ⟨.int _, H, I.kept hk, ⟨_, rfl⟩, q⟩
theorem je_sumT {ns : List Int} (ha : JE S ds a (tupE .int ns)) (hm : S.mg ("sum" : Str) = none) (hg : S.scope.names.lookup ("sum" : Str) = some .globalImplicit := by rfl)
    (he : ∀ env, starEach [a] env = (false, eval a env) :: starEach [] env := by intro _; rfl) : JE S ds (.Call (.Name "sum" p) [a] [] pos) (.int ns.sum) := by
  refine je_callB (r := rSumT S.K) (fun X h => by rw [← h.K]; exact cr_sumT h.calm) hm (by decide +kernel) (ja_cons ha ja_nil he) (rdc1 fun O H v dom r Q kq => ?_) hg (by decide) (by decide) he
  cases r with
  | tup h rs =>
    rw [rs.ints] at h
    exact ⟨_, ns, rfl, SqT.of (hide_sub _ _ h), kq _ H (Same.refl H) (.int _)⟩
/-! ### least and greatest -/
theorem je_maxL {ns : List Int} {M : Int} (ha : JE S ds a (lstE .int ns)) (h1 : M ∈ ns) (h2 : ∀ y ∈ ns, y ≤ M) (hm : S.mg ("max" : Str) = none) (hg : S.scope.names.lookup ("max" : Str) = some .globalImplicit := by rfl)
    (he : ∀ env, starEach [a] env = (false, eval a env) :: starEach [] env := by intro _; rfl) : JE S ds (.Call (.Name "max" p) [a] [] pos) (.int M) := by
  refine je_callB (r := rMax S.K) (fun X h => by rw [← h.K]; exact cr_max h.calm) hm (by decide +kernel) (ja_cons ha ja_nil he) (rdc1 fun O H v dom r Q kq => ?_) hg (by decide) (by decide) he
  cases r with
  | lst h rs =>
    rw [rs.ints] at h
    refine ⟨_, ns, rfl, SqL.of (hide_sub _ _ h), List.length_pos_of_mem h1, fun m hm hle => ?_⟩
    have e : m = M := Int.le_antisymm (h2 m hm) (hle M h1)
    rw [e]
    exact kq _ H (Same.refl H) (.int _)
theorem je_minL {ns : List Int} {M : Int} (ha : JE S ds a (lstE .int ns)) (h1 : M ∈ ns) (h2 : ∀ y ∈ ns, M ≤ y) (hm : S.mg ("min" : Str) = none) (hg : S.scope.names.lookup ("min" : Str) = some .globalImplicit := by rfl)
    (he : ∀ env, starEach [a] env = (false, eval a env) :: starEach [] env := by intro _; rfl) : JE S ds (.Call (.Name "min" p) [a] [] pos) (.int M) := by
  refine je_callB (r := rMin S.K) (fun X h => by rw [← h.K]; exact cr_min h.calm) hm (by decide +kernel) (ja_cons ha ja_nil he) (rdc1 fun O H v dom r Q kq => ?_) hg (by decide) (by decide) he
  cases r with
  | lst h rs =>
    rw [rs.ints] at h
    refine ⟨_, ns, rfl, SqL.of (hide_sub _ _ h), List.length_pos_of_mem h1, fun m hm hle => ?_⟩
    have e : m = M := Int.le_antisymm (hle M h1) (h2 m hm)
    rw [e]
    exact kq _ H (Same.refl H) (.int _)
theorem alike_ints (x : Int) (ns : List Int) : PySem.W.AlikeAll (PyData.int x :: ns.map PyData.int) := by
  have all : ∀ y ∈ PyData.int x :: ns.map PyData.int, ∃ i, y = .int i := fun y hy => by
    rcases List.mem_cons.mp
          hy with h | h
    · exact ⟨x, h⟩
    · obtain ⟨i, _, h⟩ := List.mem_map.mp h
      exact ⟨i, h.symm⟩
  refine ⟨fun y hy z hz => ?_, fun y hy => ?_⟩
  · obtain ⟨i, rfl⟩ := all y hy
    obtain ⟨j, rfl⟩ := all z hz
    rfl
  · obtain ⟨i, rfl⟩ := all y hy
    intro h
    cases h
theorem depthAll_ints (ns : List Int) : PyData.depthAll (ns.map PyData.int) = 0 := by
  have := depAll (n := 0) (xs := ns.map PyData.int) fun x hx => by
    obtain ⟨i, _, h⟩ := List.mem_map.mp hx
    rw [← h]
    unfold PyData.depth
    omega
  omega
def rMaxT (K : PySem.W.Frag) : List V → Hp → VK → Prop := fun vs H Q => ∃ (a : Addr) (x : Int) (ns : List Int), vs = [V.ref a] ∧ SqT K H a ((x :: ns).map V.int) ∧ Q (.int (ns.foldl max x)) H
def rMinT (K : PySem.W.Frag) : List V → Hp → VK → Prop := fun vs H Q => ∃ (a : Addr) (x : Int) (ns : List Int), vs = [V.ref a] ∧ SqT K H a ((x :: ns).map V.int) ∧ Q (.int (ns.foldl min x)) H
theorem dp_ints {K : PySem.W.Frag} {H : Hp} : ∀ ns : List Int, DpAll K H (ns.map V.int) (ns.map PyData.int)
  | [] => .nil
  | n :: ns => .cons (.int n) (dp_ints ns)
theorem reads_int {h : Heap} {v : Value} {i : Int} {as : List Addr} (r : Reads h v (.int i) as) : ∃ t, v = .int i t := by
  cases r
  exact ⟨_, rfl⟩
theorem cr_maxT {X : Cx} {k : Nat} (hc : X.calm = true) (hr : Room k X.A) : CallR X (.builtin "max") (rMaxT X.K) := by
  intro pins s σ
        H vs us Q I r h
  obtain ⟨a, x, ns, rfl, hs, q⟩ := h
  obtain ⟨its, rv, hl, _⟩ := I.tuple hs
  rw [Vals.ref1 r]
  obtain ⟨as, hra⟩ := Dp.readsAll I ((x :: ns).map PyData.int) _ its (dp_ints (x :: ns)) rv
  refine PySem.W.max_tuple_data (I.ok.hd hc) (show s.heap.IsTuple a its.toArray from hl) (by simpa using hra) (alike_ints x ns) ?_ fun i v h' tk bs hv hrd hk => ?_
  · have e := depthAll_ints (x :: ns)
    rw [List.map_cons] at e
    rw [e]
    have := hr.units
    omega
  · rw [PySem.W.maxD_ints] at hrd
    obtain ⟨t, rfl⟩ := reads_int hrd
    exact ⟨.int _, H, I.kept hk, ⟨_, rfl⟩, q⟩
theorem cr_minT {X : Cx} {k : Nat} (hc : X.calm = true) (hr : Room k X.A) : CallR X (.builtin "min") (rMinT X.K) := by
  intro pins s σ
        H vs us Q I r h
  obtain ⟨a, x, ns, rfl, hs, q⟩ := h
  obtain ⟨its, rv, hl, _⟩ := I.tuple hs
  rw [Vals.ref1 r]
  obtain ⟨as, hra⟩ := Dp.readsAll I ((x :: ns).map PyData.int) _ its (dp_ints (x :: ns)) rv
  refine PySem.W.min_tuple_data (I.ok.hd hc) (show s.heap.IsTuple a its.toArray from hl) (by simpa using hra) (alike_ints x ns) ?_ fun i v h' tk bs hv hrd hk => ?_
  · have e := depthAll_ints (x :: ns)
    rw [List.map_cons] at e
    rw [e]
    have := hr.units
    omega
  · rw [PySem.W.minD_ints] at hrd
    obtain ⟨t, rfl⟩ := reads_int hrd
    exact ⟨.int _, H, I.kept hk, ⟨_, rfl⟩, q⟩
theorem je_maxT {n : Int} {ns : List Int} (ha : JE S ds a (tupE .int (n :: ns))) (hm : S.mg ("max" : Str) = none) (hg : S.scope.names.lookup ("max" : Str) = some .globalImplicit := by rfl)
    (he : ∀ env, starEach [a] env = (false, eval a env) :: starEach [] env := by intro _; rfl) : JE S ds (.Call (.Name "max" p) [a] [] pos) (.int (ns.foldl max n)) := by
  refine je_callB (r := rMaxT S.K) (fun X h => by rw [← h.K]; exact cr_maxT h.calm h.room) hm (by decide +kernel) (ja_cons ha ja_nil he) (rdc1 fun O H v dom r Q kq => ?_) hg (by decide) (by decide) he
  cases r with
  | tup h rs =>
    rw [rs.ints] at h
    exact ⟨_, n, ns, rfl, SqT.of (hide_sub _ _ h), kq _ H (Same.refl H) (.int _)⟩
theorem je_minT {n : Int} {ns : List Int} (ha : JE S ds a (tupE .int (n :: ns))) (hm : S.mg ("min" : Str) = none) (hg : S.scope.names.lookup ("min" : Str) = some .globalImplicit := by rfl)
    (he : ∀ env, starEach [a] env = (false, eval a env) :: starEach [] env := by intro _; rfl) : JE S ds (.Call (.Name "min" p) [a] [] pos) (.int (ns.foldl min n)) := by
  refine je_callB (r := rMinT S.K) (fun X h => by rw [← h.K]; exact cr_minT h.calm h.room) hm (by decide +kernel) (ja_cons ha ja_nil he) (rdc1 fun O H v dom r Q kq => ?_) hg (by decide) (by decide) he
  cases r with
  | tup h rs =>
    rw [rs.ints] at h
    exact ⟨_, n, ns, rfl, SqT.of (hide_sub _ _ h), kq _ H (Same.refl H) (.int _)⟩
end
end Sh


set_option Elab.async false
set_option linter.all false
set_option maxRecDepth 100000
set_option maxHeartbeats 40000000
set_option autoImplicit false
/-! J9: more that is walked, sorted, dicts, strings of things by data -/
namespace Sh
open PySem PySem.Spec
      PyProof.Rows L2
/-! ### enumerate(tuple) -/
section
set_option maxHeartbeats 10000000 in
theorem meets_enum_new1 {v : Value} {o : Obj} {H : Heap → Prop} (B : Begins v o H) :
    Meets (Builtin.«enumerate.__new__» ⟨[.type "enumerate", v], []⟩) (fun _ R s => H s.heap ∧
      R (.ok (.ret (.ref (s.heap.push o).objs.size))) { s with heap := (s.heap.push o).push { cls := .type "enumerate", data := .fields #[.none, .bool false, .ref s.heap.objs.size, rawInt 0, .none, .none] } }) :=
  .of_wp fun prog
        w A R s h => by
    obtain ⟨hp, g, d, tkn, os⟩ := s; obtain ⟨h1, h⟩ := h
    have hsub := sub_enumerate
    have qA : ∀ {A' : Around} {E : Value → Shared → Prop} {Q : Value → Shared → Prop}, Q (.ref hp.objs.size) ⟨hp.push o, g, d, tkn, os⟩ → wpAny (model prog w) A' (pyIter v) Q E ⟨hp, g, d, tkn, os⟩ :=
      fun q => B.iter prog w _ _ ⟨hp, g, d, tkn, os⟩ _ h1 q
    wp_walk using qA
    refine wpAny_stack_any fun stn => wpAny_pure ?_
    split
    · rename_i c _ _ _ _ _
      cases (c == Value.type
            "enumerate")
      · wp_walk using qA
        exact ⟨_, rfl, h⟩
      · wp_walk using qA
        exact ⟨_, rfl, h⟩
    · wp_walk using qA
      exact ⟨_, rfl, h⟩
theorem enum_begins1 {prog : Program} {w : World} {A : Around} {E : Value → Shared → Prop} {s : Shared} {v : Value} {o : Obj} {H : Heap → Prop} {Q : Value → Shared → Prop} (B : Begins v o H) (h1 : H s.heap)
    (h : ∀ h', IsEnum h' (s.heap.objs.size + 1) s.heap.objs.size 0 .none → h'.get? s.heap.objs.size = some o → h'.objs.size = s.heap.objs.size + 2 →
      (∀ b o, s.heap.get? b = some o → h'.get? b = some o) → Q
            (.ref (s.heap.objs.size + 1)) { s with heap := h' }) :
    wpAny (model prog w) A (call (.type "enumerate") [v]) Q E s := by
  refine callType_new F.called_enumerate
        (by decide) (F.typeCall_enumerate_1 _) (F.newCall_enumerate_1 _) (fun obj => F.args_object_init_2 obj _) F.entry_enumerate_new
    (meets_enum_new1 B) ⟨h1, ?_⟩
  have hz : (s.heap.push o).objs.size =
        s.heap.objs.size + 1 := Heap.size_push ..
  show _ ∧ _
  rw [hz]
  have hEn : IsEnum ((s.heap.push o).push { cls := .type "enumerate", data := .fields #[.none, .bool false, .ref s.heap.objs.size, rawInt 0, .none, .none] }) (s.heap.objs.size + 1) s.heap.objs.size 0 .none := by
    have := Heap.get?_push_size (s.heap.push o) (o := { cls := .type "enumerate", data := .fields #[.none, .bool false, .ref s.heap.objs.size, rawInt 0, .none, .none] }) rfl
    rw [hz] at this; exact this
  refine ⟨⟨_, hEn, rfl⟩, h _ hEn (Heap.get?_push_of_some _ (Heap.get?_push_size _ B.free)) (by rw [Heap.size_push, hz]) fun b o x => Heap.get?_push_of_some _ (Heap.get?_push_of_some _ x)⟩
end
/-- the tuple at a, each item in a new pair -/
def IteT (K : PySem.W.Frag) (a : Addr) : It :=
  ⟨fun i H => ∃ (xs : List V) (x : V), SqT K H a xs ∧ xs[i]? = some x, fun i H v H' => ∃ T x, v = .ref T ∧ H T = none ∧ H' = upd H T (.tup [.int (i : Nat), x]) ∧ ∀ xs, SqT K H a xs → xs[i]? = some x, fun i H => ∃ xs : List V, SqT K H a xs ∧ xs.length ≤ i⟩
theorem turn_enumT {P : Program} {w : World} {K : PySem.W.Frag} {elts : List Expr} {kk : Nat} {tpos : Pos} (a e it : Addr) (hae : a ≠ e) (hai : a ≠ it) :
    Turn P w K (.Tuple elts kk tpos) (IteT K a) [e, it] e (fun i h => (∃ oWas, IsEnum h e it ((i : Nat) : Int) oWas) ∧ h.IsTupleIter it a i ∧ e ≠ it) where
  mem := by simp
  obj := fun i h stn b hb => by
    obtain ⟨⟨oWas, hEn⟩, ⟨o, hOb, hCl, hd⟩, _⟩ := stn
    have e' : b = e ∨ b =
          it := by simpa using hb
    rcases e' with z | z
    · rw [z]; exact ⟨_, hEn, fun v q => nomatch q⟩
    · rw [z]; exact ⟨o, hOb, fun v q => by rw [hd] at q; cases q⟩
  keep := fun i h h' stn k => let ⟨⟨oWas, hEn⟩, hi, neIt⟩ := stn; ⟨⟨oWas, k e (by simp) _ hEn⟩, hi.at fun o q => k it (by simp) o q, neIt⟩
  item := by
    intro X hP hw hK hCl i pins s σ H E I hf stn hg
    subst hP hw hK
    obtain ⟨⟨oWas, hEn⟩, hItr, neIt⟩ := stn
    obtain ⟨xs, x, hq, hx⟩ := hg
    obtain ⟨itmV, rVals, p, hz⟩ := I.tuple hq
    obtain ⟨u, hu, ru⟩ := rVals.get hx
    have ltEn : e < s.heap.objs.size := Heap.lt_size hEn
    have ltIt : it < s.heap.objs.size := by obtain ⟨_, q, _⟩ := hItr; exact Heap.lt_size q
    have D : Draws X.prog X.w X.A.in1 it [it, a] itmV.toArray.size (fun i v => itmV.toArray[i]? = some v) (fun i h => h.IsTupleIter it a i ∧ h.IsTuple a itmV.toArray) := Draws.tuple (A := X.A.in1) (show X.A.in1.handled = none from I.ok.hd hCl) it a hai itmV.toArray
    have hil2 : i < itmV.toArray.size := by
      have := (List.getElem?_eq_some_iff.mp hu).1
      simpa using this
    refine wpAny_pyNext_enum_itemD D hEn ⟨hItr, p⟩ hil2 neIt (by simp [neIt, Ne.symm hae]) fun x' h' tkn hx' hOb hit' hT hsz hk => ?_
    have hxu : x' = u := by
      have h2 : itmV.toArray[i]? = some u := by simpa using hu
      rw [h2] at hx'
      exact (Option.some.inj hx').symm
    subst hxu
    refine ⟨_, rfl, wpAny_letOwnedTupleGo_enum (s := { s with heap := h', toks := tkn + 1 }) hOb fun h'' he' butE => ?_⟩
    have hT2 : h''.get? s.heap.objs.size = some { cls := .type "tuple", data := .seq #[.int i tkn, x'] } := (butE.2 _ (Nat.ne_of_gt ltEn)).trans hT
    have new : ObjOk X.prog X.w (upd H s.heap.objs.size (.tup [.int (i
          : Nat), x])) h'' s.heap.objs.size (.tup [.int (i : Nat), x]) :=
      ⟨by show 2 ≤ sizeLine; decide, [.int i tkn, x'], .cons ⟨_, rfl⟩ (.cons ru .nil), ⟨_, hT2, rfl, _, rfl⟩⟩
    have I1 : Inv X pins σ (upd H s.heap.objs.size (.tup [.int (i : Nat), x])) { s with heap := h'', toks := tkn + 1 } :=
      I.turnedNew (ch := [e, it]) (fun b obj hb q => (butE.2 b (fun z => hb (by simp [z]))).trans (hk b obj (fun z => hb (by simp [z])) (fun z => hb (by simp [z])) q)) hf (Nat.le_refl _) new
    refine ⟨.ref s.heap.objs.size, _, I1, rfl, ⟨_, x, rfl, I.hok.fresh (Nat.le_refl _), rfl, fun ys hy => by rw [I.tuple_inj hy hq]; exact hx⟩, ⟨⟨x', ?_⟩, hit'.1.at fun o q => (butE.2 it (Ne.symm neIt)).trans q, neIt⟩, fun b hb => ?_⟩
    · have e1 : ((i + 1 : Nat) :
            Int) = (i : Int) + 1 := by omega
      rw [e1]; exact he'
    · have hb' : b <
            s.heap.objs.size := by
        have e' : b = e ∨ b =
              it := by simpa using hb
        rcases e' with z | z
        · rw [z]; exact ltEn
        · rw [z]; exact ltIt
      rw [upd_ne
            (Nat.ne_of_lt hb')]
      exact (hf b hb).1
  done := by
    intro X hP hw hK hCl i pins s σ H E I hf stn hg
    subst hP hw hK
    obtain ⟨⟨oWas, hEn⟩, hItr, neIt⟩ := stn
    obtain ⟨xs, hq, hx⟩ := hg
    obtain ⟨itmV, rVals, p, hz⟩ := I.tuple hq
    obtain ⟨f0, f1, f2, f3,
          f4, f5⟩ := hf it (by simp)
    have hl := rVals.length
    have hT : s.TypeIs (.ref e) "enumerate" := ⟨_, hEn, rfl⟩
    unfold pyNext
    refine wpAny_bind (wpAny_attempt (wpAny_callSpecial?_slot
          (name := Str.ofString "__next__") hT F.slot_enumerate_next
      (wpAny_call_entry F.slot_enumerate_next hT
            F.entry_enumerate_next ?_ (F.args_enumerate_next_1 _))))
    show wpAny _ _ (field
          (.ref e) 2 >>= _) _ _ _
    refine wpAny_bind (wpAny_field hEn rfl (x := .ref it) rfl ?_)
    refine wpAny_bind (wpAny_nextOf_tuple_end (show X.A.in1.handled = none from I.ok.hd hCl) hItr p (by simp; omega) fun h' x he' hx' => ?_)
    obtain ⟨o, hOb, hcl⟩ := hx'
    refine wpAny_bind (wpAny_isInstance (T := "StopIteration") (b := true) ⟨o, hOb, hcl⟩ isSubtype_stop ?_)
    exact wpAny_pure ⟨rfl, I.turned (t' := s.toks) (fun b o hb q => he' b o hb q) f0 f1 f3 f4 f5⟩
  self := fun A i s Q E stn h => let ⟨⟨_, hEn⟩, _⟩ := stn; wpAny_pyIter_enum hEn h
def iEnumT (K : PySem.W.Frag) (ta : TA) : TI := fun σ H R => ta σ H fun vs H1 => ∃ a xs, vs = [.ref a] ∧ SqT K H1 a xs ∧ R (IteT K a) H1
theorem pi_enumT {X : Cx} {e : Expr} {ta : TA} {p pos tpos : Pos} {elts : List Expr} {kk : Nat} (hg : Gl X "enumerate") (hm : X.mg "enumerate" = none) (ha : PA X [e] ta) (hs : starEach [e] X.env = [(false, eval e X.env)] := by rfl) :
    PI X (.Tuple elts kk tpos) (.Call (.Name "enumerate" p) [e] [] pos) (iEnumT X.K ta) := by
  refine ⟨fun pins
        s σ H R I h => ?_⟩
  refine Call_ (ld_blt I hg hm boot_enumerate (PyProof.Rows.callWith_type1 (thn (ha.run pos pins s σ H _ I h) fun us s1 ⟨vs, H1, I1, r1, qA⟩ => ?_) hs rfl))
  obtain ⟨a, xs, ex, hq, q⟩ := qA
  subst ex
  cases r1 with
  | cons r rr =>
    cases rr
    cases r
    obtain ⟨itmV, rVals, p', hz⟩ := I1.tuple hq
    have hal : a < s1.heap.objs.size := by obtain ⟨_, q, _⟩ := p'; exact Heap.lt_size q
    refine enum_begins1 (begins_tuple a itmV.toArray) p' fun h' hEn hItr hsz hk => wpAny_pyIter_enum hEn ?_
    have I2 : Inv X pins σ H1 { s1 with heap
          := h' } := I1.kept (t' := s1.toks) hk
    refine ⟨s1.heap.objs.size + 1, [s1.heap.objs.size + 1, s1.heap.objs.size], _, _, H1, rfl, I2, turn_enumT a (s1.heap.objs.size + 1) s1.heap.objs.size (Nat.ne_of_lt (Nat.lt_succ_of_lt hal)) (Nat.ne_of_lt hal), ⟨⟨.none, hEn⟩, ⟨_, hItr, rfl, rfl⟩, Nat.succ_ne_self _⟩, fun b hb => ?_, q⟩
    have e' : b = s1.heap.objs.size + 1 ∨ b
          = s1.heap.objs.size := by simpa using hb
    have hle :
          s1.heap.objs.size ≤ b := by
      rcases e' with z | z
      · rw
              [z]; exact Nat.le_add_right _ _
      · rw [z]; exact Nat.le_refl _
    exact I1.fpOk hle
          (I1.hok.fresh hle)
theorem walk_enumT {K : PySem.W.Frag} {a : Addr} {xs : List V} : Walk (IteT K a) xs.length (fun H => SqT K H a xs) (YPair (fun i => some (.int (i : Nat))) (fun i => xs[i]?)) := by
  refine ⟨fun i _ hi q => ⟨xs, xs[i], q,
        by simp [hi]⟩, fun _ q => ⟨xs, q, Nat.le_refl _⟩, fun i H v H' _ q y => ?_⟩
  obtain ⟨T, x, h1,
        h2, h3, h4⟩ := y
  exact ⟨T, .int (i : Nat), x,
        h1, h2, h3, rfl, h4 xs q⟩
section
variable {S : SC} {α β : Type} {ds : List Slot} {tg src a b c elt iter : Expr} {enc : α → PyData} {items : List α} {p pos : Pos} {j j1 j2 : Nat}
theorem jw_enumT {elts : List Expr} {kk : Nat} {tpos : Pos} (ha : JE S ds a (tupE enc items)) (hm : S.mg ("enumerate" : Str) = none) (hg : S.scope.names.lookup ("enumerate" : Str) = some .globalImplicit := by rfl)
    (hEn : ∀ env, starEach [a] env = (false, eval a env) :: starEach [] env := by intro _; rfl) (he2 : ∀ env, starEach [a] env = [(false, eval a env)] := by intro _; rfl) :
    JW S ds (.Tuple elts kk tpos) (.Call (.Name "enumerate" p) [a] [] pos) (g2 S.K j1 j2) [j1, j2] (enumI items) (fun q => [.int q.1, enc q.2]) := by
  intro O σ H stn R k
  refine ⟨iEnumT S.K (taOf S [a]), fun X h => by rw [← h.K]; exact pi_enumT (gl_of h hg) (h.mg ▸ hm) (pa_taOf h) (he2 _), ?_⟩
  refine ja_cons ha ja_nil hEn O σ H stn _ fun vs H1 e1 r1 => ?_
  cases r1 with
  | cons r rr =>
    cases rr
    cases r with
    | @tup q vs _ h rs =>
      have l1 : vs.length = items.length := by rw [rs.len, List.length_map]
      refine ⟨q, vs, rfl, SqT.of (hide_sub _ _ h), k _ H1 (fun H => H q = some (.tup vs)) (YPair (fun i => some (.int (i : Nat))) (fun i => vs[i]?)) e1 ?_ (fun H2 s => hide_sub _ _ (s _ _ h)) ?_⟩
      · rw [show (enumI items).length = vs.length by unfold enumI; rw [List.length_mapIdx, l1]]
        exact walk_enumT.mono (fun H h => SqT.of h) fun _ _ _ _ _ _ y => y
      · rintro i ⟨u, w⟩ H2 x H3 σ' Q hi hG ⟨T, x1, y1, rfl, hT, rfl, hx1, hy1⟩ kk2
        rw [enumI_get] at hi
        cases q2 : items[i]? with
        | none => rw [q2] at hi; cases hi
        | some a0 =>
          rw [q2] at hi
          cases hi
          obtain ⟨v, hv, rVals⟩ := rs.get (i := i) (d := enc w) (by rw [List.getElem?_map, q2]; rfl)
          have hv := (show vs[i]? = some y1 from hy1).symm.trans hv
          cases hv
          cases hx1
          exact g2_run (SqT.of upd_same) (kk2 [_, y1] (Same.upd_new hT) (.cons (.int _) (.cons rVals .nil)))
/-- range(lo, hi, -1) -/
theorem jw_range3 {lo n : Int} {p1 p2 : Pos} {kk : Nat} (ha : JE S ds a (.int lo)) (hb : JE S ds b (.int n)) (hm : S.mg ("range" : Str) = none) (hn : -1000000 ≤ lo ∧ lo ≤ 1000000 ∧ -1000000 ≤ n ∧ n ≤ 1000000) (hg : S.scope.names.lookup ("range" : Str) = some .globalImplicit := by rfl)
    (hEn : ∀ env, starEach [a, b, .UnaryOp .USub (.Constant (.int 1) kk p1) p2] env = (false, eval a env) :: starEach [b, .UnaryOp .USub (.Constant (.int 1) kk p1) p2] env := by intro _; rfl)
    (he2 : ∀ env, starEach [b, .UnaryOp .USub (.Constant (.int 1) kk p1) p2] env = (false, eval b env) :: starEach [.UnaryOp .USub (.Constant (.int 1) kk p1) p2] env := by intro _; rfl)
    (hpl : ∀ env, (backTo pos (starEach [b, .UnaryOp .USub (.Constant (.int 1) kk p1) p2] env)).any (·.1) = false := by intro _; rfl) : JW S ds tg (.Call (.Name "range" p) [a, b, .UnaryOp .USub (.Constant (.int 1) kk p1) p2] [] pos) (gName j) [j] (rangeD lo n) (fun i => [.int i]) := by
  intro O σ H stn R k
  refine ⟨iRng3 (taOf S [a, b, .UnaryOp .USub (.Constant (.int 1) kk p1) p2]), fun X h => pi_range3 (gl_of h hg) (h.mg ▸ hm) (pa_taOf h) (by rw [hEn, he2]) (by rw [hpl]), ?_⟩
  refine ja_cons ha (ja_cons hb (ja_cons (je_neg je_int) ja_nil) he2) hEn O σ H stn _ fun vs H1 e1 r1 => ?_
  cases r1 with
  | cons r rr =>
    cases rr with
    | cons r2 rr =>
      cases rr with
      | cons r3 rr =>
        cases r; cases r2; cases r3; cases rr
        refine ⟨lo, n, -1, (lo - n).toNat, rfl, RgC.neg (by omega) (by omega) (by omega) (by omega), k _ H1 (fun _ => True) (YFn fun i => .int (lo + (i : Nat) * (-1))) e1 ?_ (fun _ _ => trivial) ?_⟩
        · rw [len_rangeD]
          exact walk_rangeC
        · rintro i a H2 x H3 σ' Q hi _ ⟨rfl, hx⟩ kk
          unfold rangeD at hi
          rw [List.getElem?_map] at hi
          cases q : (List.range (lo - n).toNat)[i]? with
          | none => rw [q] at hi; cases hi
          | some m =>
            rw [q] at hi
            obtain ⟨h1, h2⟩ := List.getElem?_eq_some_iff.mp q
            rw [List.getElem_range] at h2
            subst h2
            cases hi
            subst hx
            refine kk [_] (Same.refl _) (.cons ?_ .nil)
            have e : lo + (i : Int) * (-1) = lo - (i : Int) := by omega
            show Rp _ (.int (lo + (i : Int) * (-1))) _
            rw [e]
            exact .int _
end
end Sh


set_option Elab.async false
set_option linter.all false
set_option maxRecDepth 100000
set_option maxHeartbeats 40000000
set_option autoImplicit false
/-! J10: defs that want to know that no repr is under way; repr by data -/
namespace Sh
open PySem PySem.Spec
      PyProof.Rows L2
/-- what a def promises where no repr is under way -/
structure FnG (P : Program) (w : World) (K : PySem.W.Frag) (mg : Str → Option Value) (base : Heap) (k : Nat) (f : Addr) (fd : FuncData) (ps : List Str) (sp : Sp) : Prop where
  len : ∀ vs H Q E, sp vs H
        Q E → vs.length = ps.length
  go : ∀ (A : Around) (fs : List Env) (s : Shared) (H : Hp) (g : Args) (us : List Value) (vs : List V) (Q : VK) (E : XK), A.guards = some [] → Room k A → Env0 P w K mg base A fs s H →
    BindsTo s fd g (ps.zip us) → Vals vs us → sp vs H Q E → codeAny (model P w) A (.call (.ref f) g) (CR CX0 fs P w H s Q E) s
section
variable {P : Program} {w : World} {K : PySem.W.Frag} {mg : Str → Option Value} {base : Heap} {x : Str} {st : Stmt} {f : Addr} {fd : FuncData} {N ps : List Str} {k : Nat} {sp : Sp}
theorem FnG.ofC {k : Nat} (F : FnP K x st f fd) (Sc : FnScope N ps (defScope st)) (len : ∀ vs H Q E, sp vs H Q E → vs.length = ps.length)
    (hb : ∀ (A : Around) (fs : List Env) (s : Shared) (H : Hp) (vs : List V) (Q : VK) (E : XK), (A.deeper (envOfC x (defScope st) s.heap.objs.size f fd.code)).guards = some [] → Room k (A.deeper (envOfC x (defScope st) s.heap.objs.size f fd.code)) → sp vs H Q E →
      ∃ t, PSs (cxOf CX0 P w K mg base N x (defScope st) f fd.code A fs s H E) (defBody st) t ∧ t { nx := fun _ H' => Q .non H', rt := Q } (start N vs) H) : FnG P w K mg base (k + 1) f fd ps sp := by
  obtain ⟨oc, od, dV, kV, doc, pm, an, cdv, ct, osl, ee, lk, hcd, _, _⟩ := F.ex
  subst ee
  refine ⟨len, fun A fs s H g us vs Q E hg hr e0 hbd r hsp => ?_⟩
  have kIn : K.In s.heap := e0.mod.kin.keeps fun b o e => (e0.bs b o e).1
  have noL : s.heap.NoLimit := e0.mod.nolimit.keeps fun b o e => (e0.bs b o e).1
  have kinds : ∀ y ∈ ps.zip us, (defScope st).names.lookup y.1 = some .local ∨ ((defScope st).names.lookup y.1 = some .cell ∧ ((cellsFrom (s.heap.objs.size + 1) (defScope st).names []).lookup y.1).isSome = true) := by
    rintro ⟨n, v⟩ hy
    exact (Sc.par n (List.of_mem_zip hy).1).imp id fun q => ⟨q, PySem.W.cellsFrom_some _ _ _ (.inl q)⟩
  refine codeAny_call_function hr.depth (kIn _ _ lk) rfl Sc.co Sc.gen rfl (PySem.W.codeRec_of kIn hcd) (hbd _ _ _ _ (wpAny_newFunctionEnv_cells Sc.kind kinds fun env he s1 ic => ?_))
  subst he
  refine ⟨noL.keeps ic.toInCall.keep, codeAny_func ?_⟩
  obtain ⟨t, ht, hq⟩ := hb A fs s H vs Q E hg (hr.deeper _) hsp
  refine wpAny_mono (ht.run [] s1 (start N vs) H _ (inv_start Sc hr.hd e0 (len _ _ _ _ hsp) r ic) hq) (fun fl s' hs => ?_) fun e s' hs => hs
  cases fl with
  | ret u => exact let ⟨v, σ', H', J, rv, q⟩ := hs; ⟨v, H', J.os, J.bare, J.base, J.hok, rv, q⟩
  | next => exact let ⟨σ', H', J, q⟩ := hs; ⟨V.non, H', J.os, J.bare, J.base, J.hok, (rfl : RelV .non .none), q⟩
  | brk => exact hs.elim fun _ h => h.elim fun _ h => h.2.elim
  | cont => exact hs.elim fun _ h => h.elim fun _ h => h.2.elim
theorem FnG.of {k : Nat} (F : FnP K x st f fd) (Sc : FnScope N ps (defScope st)) (len : ∀ vs H Q E, sp vs H Q E → vs.length = ps.length)
    (hb : ∀ (cdv : Value) (A : Around) (fs : List Env) (s : Shared) (H : Hp) (vs : List V) (Q : VK) (E : XK), (A.deeper (envOfC x (defScope st) s.heap.objs.size f cdv)).guards = some [] → Room k (A.deeper (envOfC x (defScope st) s.heap.objs.size f cdv)) → sp vs H Q E →
      ∃ t, PSs (cxOf CX0 P w K mg base N x (defScope st) f cdv A fs s H E) (defBody st) t ∧ t { nx := fun _ H' => Q .non H', rt := Q } (start N vs) H) : FnG P w K mg base (k + 1) f fd ps sp := .ofC F Sc len fun A fs s H vs Q E h1 h2 h3 => hb fd.code A fs s H vs Q E h1 h2 h3
/-- a def that may be called where no repr is under way -/
def CalG (P : Program) (w : World) (K : PySem.W.Frag) (mg : Str → Option Value) (base : Heap) (x : Str) (k : Nat) (sp : Sp) : Prop :=
  ∃ (f : Addr) (fd : FuncData) (ps : List Str), FnG P w K mg base k f fd ps sp ∧ mg x = some (.ref f) ∧ PySem.W.keepIn K (.ref f) = true ∧ Binds K fd ps []
end
section
variable {S : SC} {ds : List Slot} {a b c e : Expr} {es ifs rest : List Expr} {x y z d : PyData} {xs ys : List PyData} {pos p p1 : Pos} {i j : Nat} {t : Str} {P : PyData → Prop}
theorem pe_calG {X : Cx} {x : Str} {n : Nat} {sp : Sp} {t : TA} (h : S.Holds X) (hG : S.g = true) (C : CalG S.prog S.w S.K S.mg S.base x n sp) (hn : n ≤ S.k) (hg : S.scope.names.lookup x = some .globalImplicit) (ha : PA X (e :: es) t) (hdb : (x == ("__debug__" : Str)) = false)
    (he : ∀ env, starEach (e :: es) env = (false, eval e env) :: starEach es env) (hpl : ∀ env, (backTo pos (starEach es env)).any (·.1) = false) : PE X (.Call (.Name x p) (e :: es) [] pos) (tCall sp [] E0 t) := by
  obtain ⟨f, fd, ps, F, hm, hk, hb⟩ := C
  rw [← h.prog, ← h.w, ← h.K, ← h.mg, ← h.base] at F
  refine ⟨fun pins s σ H Q I hq => wpAny_Call_Name_kw (ld_glob I (gl_of h hg) (h.mg ▸ hm) ?_ hdb)⟩
  refine PySem.W.callWith_K (h₀ := X.base) I.ok.mod.kin (h.K ▸ hk) (thn (ha.run pos pins s σ H _ I hq) fun us s1 ⟨vs, H1, I1, r, q⟩ => ⟨I1.kIn, ?_⟩) (he _) (hpl _)
  have q : sp vs H1 Q E0 := by have q' := q; simp only [List.append_nil] at q'; exact q'
  have lu : us.length = ps.length := by rw [← r.length]; exact F.len _ _ _ _ q
  have hb' := h.K ▸ hb
  have bt := hb' s1 us I1.kIn (by rw [List.append_nil]; exact lu)
  rw [List.append_nil] at bt
  refine wpAny_call (codeAny_mono (F.go X.A X.stack s1 H1 ⟨us, []⟩ us vs Q E0 (h.gd hG) (h.room.mono hn) I1.env0 bt r q) fun r s' hq => ?_)
  cases r with
  | error e => exact
        False.elim hq
  | ok fl =>
    cases fl with
    | ret u => exact I1.after hq
    | next => exact hq.elim
    | brk => exact hq.elim
    | cont => exact hq.elim
theorem je_callG {x : Str} {n : Nat} {R : List PyData → PyData → Prop} (C : CalG S.prog S.w S.K S.mg S.base x n (spP R)) (hG : S.g = true) (hn : n ≤ S.k) (ha : JA S ds (e :: es) xs) (hR : R xs d)
    (hg : S.scope.names.lookup x = some .globalImplicit := by rfl) (hdb : (x == ("__debug__" : Str)) = false := by decide)
    (he : ∀ env, starEach (e :: es) env = (false, eval e env) :: starEach es env := by intro _; rfl) (hpl : ∀ env, (backTo pos (starEach es env)).any (·.1) = false := by intro _; rfl) : JE S ds (.Call (.Name x p) (e :: es) [] pos) d := by
  intro O σ H st Q k
  refine te_mk (fun X h => pe_calG h hG C hn hg (pa_taOf h) hdb he hpl) ?_
  refine ha O σ H st _ fun vs H1 e1 r1 => ?_
  exact ⟨O, xs, d, dom_mono st.dom e1, by rw [List.append_nil]; exact r1, hR, fun v H2 e2 r2 => k v H2 (e1.trans e2) r2⟩
theorem jf_callG {x : Str} {n : Nat} {R : List PyData → (PyData → Prop) → Prop} (C : CalG S.prog S.w S.K S.mg S.base x n (spF R)) (hG : S.g = true) (hn : n ≤ S.k) (hi : ds[i]? = some .fd) (ha : JA S ds es xs) (hR : R xs P)
    (hN : S.N[i]? = some t := by rfl) (hvv : Vis S.scope t := by first | exact Or.inl rfl | exact Or.inr (Or.inl rfl) | exact Or.inr (Or.inr rfl)) (h1 : (t == ("__debug__" : Str)) = false := by decide) (h2 : (t == ("__classdict__" : Str)) = false := by decide)
    (hg : S.scope.names.lookup x = some .globalImplicit := by rfl) (hdb : (x == ("__debug__" : Str)) = false := by decide)
    (hpl : ∀ env, (backTo pos (starEach es env)).any (·.1) = false := by intro _; rfl) : JF S ds (.Call (.Name x p) (.Name t p1 :: es) [] pos) P := by
  intro O σ H st hf f Q k
  have hv : σ[i]? = some (some (.ref S.fa.ad)) := by
    obtain ⟨y, q1, q2⟩ := st.sl i _ hi
    rw [q1, show y = some (.ref S.fa.ad) from q2]
  refine te_mk (fun X h => pe_calG h hG C hn hg (pa_cons (pe_var (i := i) (h.N ▸ hN) (h.scope ▸ hvv) h1 h2) (pa_taOf h) (by rfl)) hdb (by intro _; rfl) hpl) ?_
  refine ⟨_, hv, ?_⟩
  refine ha O σ H st _ fun vs H1 e1 r1 => ?_
  refine ⟨S.fa, O, vs, xs, P, by rw [List.append_nil], hf, (st.mono e1).dom, f.mono e1, r1, hR, fun v d H2 e2 f2 r2 hp => k v d H2 ((SameF.of e1).trans e2) f2 r2 hp⟩
end
/-! ### a def keeps its promise, where no repr is under way -/
section
variable {P : Program} {w : World} {K : PySem.W.Frag} {mg : Str → Option Value} {base : Heap} {x : Str} {st : Stmt} {f : Addr} {fd : FuncData} {N ps : List Str} {k : Nat}
theorem holds_defG {cdv : Value} {A : Around} {outer : List Env} {s : Shared} {H : Hp} {E : XK} {fa : FA} (Sc : FnScope N ps (defScope st)) (hg : (A.deeper (envOfC x (defScope st) s.heap.objs.size f cdv)).guards = some []) (hr : Room k (A.deeper (envOfC x (defScope st) s.heap.objs.size f cdv))) :
    (scD P w K mg base N st k true fa).Holds (cxOf CX0 P w K mg base N x (defScope st) f cdv A outer s H E).nox :=
  ⟨rfl, rfl, rfl, rfl, rfl, rfl, Sc.nd, rfl, rfl, rfl, hr, (fun _ => hg), takesNo, PassesOwn.never, fun _ h => by cases h⟩
theorem noOwnV {args : List PyData} {i : Nat} {xs : List PyData} : (args.map Slot.val)[i]? ≠ some (Slot.own xs) := fun q => by
  rw [List.getElem?_map] at q
  cases z : args[i]? with
  | none => rw [z] at q; cases q
  | some y => rw [z] at q; cases q
theorem okV {fa : FA} {O : List Addr} {H : Hp} {vs : List V} {args : List PyData} (r : RpAll (hide O H) vs args) {i : Nat} {s : Slot} (q : (args.map Slot.val)[i]? = some s) : SlotOk fa O H (vs[i]?) s := by
  rw [List.getElem?_map] at q
  cases z : args[i]? with
  | none => rw [z] at q; cases q
  | some y =>
    rw [z] at q
    cases q
    obtain ⟨v, h1, h2⟩ := r.get z
    exact ⟨v, h1, h2⟩
theorem fn_pureG {R : List PyData → PyData → Prop} (F : FnP K x st f fd) (Sc : FnScope N ps (defScope st)) (hlen : ∀ args d, R args d → args.length = ps.length)
    (body : ∀ args d, R args d → ∀ fa, JS (scD P w K mg base N st k true fa) false (defBody st) (slots N.length (args.map .val)) { nx := fun _ => d = .none, rt := fun z => z = d }) :
    FnG P w K mg base (k + 1) f fd ps (spP R) := by
  refine FnG.of F Sc (fun vs H Q E h => ?_) fun cdv A outer s H vs Q E hg hr h => ?_
  · obtain ⟨O, args, d, _, r, hR, _⟩ := h
    rw [r.len]
    exact hlen _ _ hR
  · obtain ⟨O, args, d, dom, r, hR, kq⟩ := h
    have hH := holds_defG (P := P) (w := w) (K := K) (mg := mg) (base := base) (outer := outer) (H := H) (E := E) (fa := ⟨0, 0, []⟩) Sc hg hr
    refine ⟨tsOf (scD P w K mg base N st k true ⟨0, 0, []⟩) (defBody st), PSs.nox (pss_tsOf hH), ?_⟩
    have hla : args.length = ps.length := hlen _ _ hR
    have sit : Sit false ⟨0, 0, []⟩ O H O H (L2.start N vs) (slots N.length (args.map .val)) := by
      refine ⟨fun _ h => h, Same.refl H, fun i xs l q => ?_, fun l h1 h2 => absurd h1 h2, st_start dom (by rw [List.length_map, r.len]) (by rw [r.len, hla]; exact (sc_le Sc)) (fun i s q => okV r q) (fun i xs => noOwnV), fun h => by cases h⟩
      rcases slots_get q with q | q
      · exact absurd q noOwnV
      · cases q
    exact body args d hR ⟨0, 0, []⟩ O H O H _ sit _ ⟨fun O' H' σ' ds' q hd => kq _ _ q.ext (by rw [hd]; exact .non), fun v d' H' e _ r' hd => kq _ _ e (by rw [← hd]; exact r'), fun _ _ _ _ _ h => h.elim, fun _ _ _ _ _ h => h.elim, fun _ _ _ _ _ _ _ _ _ _ _ h => h.elim⟩
theorem fn_feedG {R : List PyData → (PyData → Prop) → Prop} (F : FnP K x st f fd) (Sc : FnScope N ps (defScope st)) (hlen : ∀ args Pd, R args Pd → args.length + 1 = ps.length)
    (body : ∀ args Pd, R args Pd → ∀ fa, JS (scD P w K mg base N st k true fa) true (defBody st) (slots N.length (.fd :: args.map .val)) { nx := fun _ => Pd .none, rt := Pd }) :
    FnG P w K mg base (k + 1) f fd ps (spF R) := by
  refine FnG.of F Sc (fun vs H Q E h => ?_) fun cdv A outer s H vs Q E hg hr h => ?_
  · obtain ⟨fa, O, ws, args, Pd, rfl, _, _, _, r, hR, _⟩ := h
    rw [List.length_cons, r.len]
    exact hlen _ _ hR
  · obtain ⟨fa, O, ws, args, Pd, rfl, hfO, dom, fe, r, hR, kq⟩ := h
    have hH := holds_defG (P := P) (w := w) (K := K) (mg := mg) (base := base) (outer := outer) (H := H) (E := E) (fa := fa) Sc hg hr
    refine ⟨tsOf (scD P w K mg base N st k true fa) (defBody st), PSs.nox (pss_tsOf hH), ?_⟩
    have hla : args.length + 1 = ps.length := hlen _ _ hR
    have noOwn : ∀ (i : Nat) (xs : List PyData), (Slot.fd :: args.map Slot.val)[i]? ≠ some (Slot.own xs) := fun i xs q => by
      cases i with
      | zero => cases q
      | succ i => exact noOwnV q
    have offSame : Same (offF fa H) H := fun a o h => by
      unfold offF at h
      split at h
      · cases h
      · exact h
    have sit : Sit true fa O (offF fa H) O H (L2.start N (.ref fa.ad :: ws)) (slots N.length (.fd :: args.map .val)) := by
      refine ⟨fun _ h => h, offSame, fun i xs l q => ?_, fun l h1 h2 => absurd h1 h2, st_start dom (by rw [List.length_cons, List.length_cons, List.length_map, r.len]) (by rw [List.length_cons, r.len, hla]; exact (sc_le Sc)) (fun i s q => ?_) noOwn, fun _ => ⟨hfO, fe, fun a ha => if_pos ha⟩⟩
      · rcases slots_get q with q | q
        · exact absurd q (noOwn i xs)
        · cases q
      · cases i with
        | zero => cases q; rfl
        | succ i => exact okV r q
    have back : ∀ H', Same (offF fa H) H' → SameF fa H H' := fun H' e a o n h => e a o (by unfold offF; rw [if_neg n]; exact h)
    exact body args Pd hR fa O (offF fa H) O H _ sit _ ⟨fun O' H' σ' ds' q hd => kq _ _ _ (back _ q.ext) ((q.fd rfl).2.1.sub q.sub) .non hd, fun v d' H' e f' r' hd => kq _ _ _ (back _ e) (f' rfl) r' hd, fun _ _ _ _ _ h => h.elim, fun _ _ _ _ _ h => h.elim, fun _ _ _ _ _ _ _ _ _ _ _ h => h.elim⟩
theorem calG_of {sp : Sp} {n : Nat} (F : FnP K x st f fd) (ok : FnG P w K mg base n f fd ps sp) (hm : mg x = some (.ref f))
    (hb : ∀ (kV doc pm : Value) (an : Option Addr) (cdv ct : Value) (us : List Value), us.length = ps.length → bindArgs (PySem.W.fnOf x x (defArgs st) (defBody st) (defScope st) .none kV doc pm an cdv ct) ⟨us, []⟩ = pure (ps.zip us)) : CalG P w K mg base x n sp :=
  ⟨f, fd, ps, ok, hm, F.kp, F.bindsN hb⟩
end
/-! ### repr -/
/-- data small enough to be written out: lists of at most 12, nested n deep -/
def smD : Nat → PyData → Bool
  | _, .none => true
  | _, .bool _ => true
  | _, .int i => decide (i.natAbs < 1000000)
  | _, .str s => decide ((PyData.str s).shown.length ≤ 20)
  | n + 1, .list xs => decide (xs.length ≤ 12) && xs.all (smD n)
  | n + 1, .tuple xs => decide (xs.length ≤ 12) && xs.all (smD n)
  | _, _ => false
def smB : Nat → Nat
  | 0 => 20
  | n + 1 => 12 * smB n + 27
theorem sm_all {n : Nat} (ih : ∀ d : PyData, smD n d = true → d.shown.length ≤ smB n ∧ d.showable = true ∧ d.hasDict = false ∧ d.depth ≤ n) : ∀ xs : List PyData, xs.all (smD n) = true →
    ((PyData.shownAll xs).map (·.length)).sum ≤ xs.length * smB n ∧ PyData.showableAll xs = true ∧ PyData.hasDictAll xs = false ∧ PyData.depthAll xs ≤ n
  | [], _ => ⟨by simp [PyData.shownAll], by simp [PyData.showableAll], by simp [PyData.hasDictAll], by simp [PyData.depthAll]⟩
  | x :: xs, h => by
    rw [List.all_cons,
          Bool.and_eq_true] at h
    obtain ⟨a1, a2, a3, a4⟩ := ih x h.1
    obtain ⟨b1, b2, b3, b4⟩ := sm_all ih xs h.2
    refine ⟨?_, by simp [PyData.showableAll, a2, b2], by simp [PyData.hasDictAll, a3, b3], by simp only [PyData.depthAll]; omega⟩
    simp only [PyData.shownAll, List.map_cons, List.sum_cons, List.length_cons, Nat.succ_mul]
    omega
theorem sm_of : ∀ (n : Nat) (d : PyData), smD n d = true → d.shown.length ≤ smB n ∧ d.showable = true ∧ d.hasDict = false ∧ d.depth ≤ n := by
  have flat : ∀ (n : Nat) (d : PyData), smD 0 d = true → d.shown.length ≤ 20 ∧ d.showable = true ∧ d.hasDict = false ∧ d.depth ≤ n := by
    intro n d h
    cases d with
    | none => exact ⟨by decide, by simp [PyData.showable], by simp [PyData.hasDict], by simp [PyData.depth]⟩
    | bool b => exact ⟨by cases b <;> decide, by simp [PyData.showable], by simp [PyData.hasDict], by simp [PyData.depth]⟩
    | int i =>
      have h' : i.natAbs < 1000000 := of_decide_eq_true h
      refine ⟨?_, ?_, by simp [PyData.hasDict], by simp [PyData.depth]⟩
      · have := int_text_length_le10 (a := i) (k := 6) (by decide) h'
        rw [PyData.shown_int, PySem.ofString_length]
        omega
      · simp only [PyData.showable, decide_eq_true_eq]
        by_cases z : i.natAbs = 0
        · rw [z]; decide
        · exact (Nat.log2_lt z).mpr (Nat.lt_of_lt_of_le h' (by decide +kernel))
    | str s => exact ⟨of_decide_eq_true h, by simp [PyData.showable], by simp [PyData.hasDict], by simp [PyData.depth]⟩
    | list xs => cases h
    | tuple xs => cases h
    | dict kvs => cases h
  have ge : ∀ n, 20 ≤ smB n := fun n => by
    induction n with
    | zero => exact Nat.le_refl _
    | succ n ih => show 20 ≤ 12 * smB n + 27; omega
  intro n
  induction n with
  | zero => exact flat 0
  | succ n ih =>
    intro d h
    have up : smD 0 d = true → d.shown.length ≤ smB (n + 1) ∧ d.showable = true ∧ d.hasDict = false ∧ d.depth ≤ n + 1 := fun q => by
      obtain ⟨a, b⟩ := flat (n + 1) d q
      exact ⟨Nat.le_trans a (ge _), b⟩
    cases d with
    | none => exact up rfl
    | bool b => exact up rfl
    | int i => exact up h
    | str s => exact up h
    | list xs =>
      simp only [smD, Bool.and_eq_true, decide_eq_true_eq] at h
      obtain ⟨b1, b2, b3, b4⟩ := sm_all ih xs h.2
      have l1 := listText_len_le (PyData.shownAll xs)
      have l2 := PyData.shownAll_length xs
      have l3 : xs.length * smB n ≤ 12 * smB n := Nat.mul_le_mul_right _ h.1
      refine ⟨?_, by simpa [PyData.showable] using b2, by simpa [PyData.hasDict] using b3, by simp only [PyData.depth]; omega⟩
      show (PyData.shown (.list xs)).length ≤ 12 * smB n + 27
      simp only [PyData.shown]
      omega
    | tuple xs =>
      simp only [smD, Bool.and_eq_true, decide_eq_true_eq] at h
      obtain ⟨b1, b2, b3, b4⟩ := sm_all ih xs h.2
      have l1 := tupleText_len_le (PyData.shownAll xs)
      have l2 := PyData.shownAll_length xs
      have l3 : xs.length * smB n ≤ 12 * smB n := Nat.mul_le_mul_right _ h.1
      refine ⟨?_, by simpa [PyData.showable] using b2, by simpa [PyData.hasDict] using b3, by simp only [PyData.depth]; omega⟩
      show (PyData.shown (.tuple xs)).length ≤ 12 * smB n + 27
      simp only [PyData.shown]
      omega
    | dict kvs => cases h
theorem smB5 : smB 5 ≤ 16777216 := by decide
theorem smB_mono : ∀ {n m : Nat}, n ≤ m → smB n ≤ smB m := by
  intro n m h
  induction h with
  | refl => exact Nat.le_refl _
  | step _ ih => exact Nat.le_trans ih (by show smB _ ≤ 12 * smB _ + 27; omega)
/-- what repr answers -/
def rRepr (K : PySem.W.Frag) : List V → Hp → VK → Prop := fun vs H Q => ∃ (v : V) (d : PyData) (n : Nat), vs = [v] ∧ Dp K H v d ∧ smD n d = true ∧ n ≤ 5 ∧ Q (.str d.shown) H
theorem cr_repr {X : Cx} {k : Nat} (hg : X.A.guards = some []) (hr : Room k X.A) : CallR X (.builtin "repr") (rRepr X.K) := by
  intro pins s σ
        H vs us Q I r h
  obtain ⟨v, d, n, rfl, hd, hs, hn, q⟩ := h
  obtain ⟨u, rfl,
        ru⟩ := vals1 r
  obtain ⟨as, hrd⟩ := Dp.reads I d v u hd ru
  obtain ⟨s1, s2, s3, s4⟩ := sm_of n d hs
  have s1' : d.shown.length ≤ sizeLine := by
    rw [sizeLine_eq]
    exact Nat.le_trans s1 (Nat.le_trans (smB_mono hn) smB5)
  have big := hr.units
  cases d with
  | none =>
    cases hrd
    exact P.repr_of_none ⟨V.str (PyData.none).shown, H, I.tok _, ⟨_, rfl⟩, q⟩
  | bool b =>
    cases hrd
    exact P.repr_of_bool ⟨V.str (PyData.bool b).shown, H, I.tok _, ⟨_, by cases b <;> rfl⟩, q⟩
  | int i =>
    cases hrd
    exact P.repr_of_int (by simpa [PyData.showable] using s2) ⟨V.str (PyData.int i).shown, H, I.tok _, ⟨_, by rw [PyData.shown_int]⟩, q⟩
  | str x =>
    cases hrd
    exact P.repr_of_str ⟨V.str (PyData.str x).shown, H, I.tok _, ⟨_, by rw [PyData.shown_str]⟩, q⟩ (by rw [← PyData.shown_str]; exact s1')
  | list xs =>
    have hrd' := hrd
    cases hrd' with
    | list h1 h2 h3 h4 => exact repr_of_reads' hrd s2 (PyData.noDict_hsm s3) hg (by omega) (fun b o e => e) (fun h' u tk hk => ⟨V.str (PyData.list xs).shown, H, I.kept hk, ⟨_, rfl⟩, q⟩) s1'
  | tuple xs =>
    have hrd' := hrd
    cases hrd' with
    | tuple h1 h2 h3 h4 => exact repr_of_reads' hrd s2 (PyData.noDict_hsm s3) hg (by omega) (fun b o e => e) (fun h' u tk hk => ⟨V.str (PyData.tuple xs).shown, H, I.kept hk, ⟨_, rfl⟩, q⟩) s1'
  | dict kvs => cases n <;> cases hs
section
variable {S : SC} {ds : List Slot} {a : Expr} {d : PyData} {pos p : Pos}
theorem je_repr (n : Nat) (hG : S.g = true) (ha : JE S ds a d) (hd : smD n d = true) (hn : n ≤ 5 := by decide) (hm : S.mg ("repr" : Str) = none) (hg : S.scope.names.lookup ("repr" : Str) = some .globalImplicit := by rfl)
    (he : ∀ env, starEach [a] env = (false, eval a env) :: starEach [] env := by intro _; rfl) : JE S ds (.Call (.Name "repr" p) [a] [] pos) (.str d.shown) := by
  refine je_callB (r := rRepr S.K) (fun X h => by rw [← h.K]; exact cr_repr (h.gd hG) h.room) hm (by decide +kernel) (ja_cons ha ja_nil he) (rdc1 fun O H v dom r Q kq => ?_) hg (by decide) (by decide) he
  exact ⟨v, d, n, rfl, (r.mono hide_sub).dp, hd, hn, kq _ H (Same.refl H) (.str _)⟩
end
end Sh


set_option Elab.async false
set_option linter.all false
set_option maxRecDepth 100000
set_option maxHeartbeats 40000000
set_option autoImplicit false
/-! J11: sorted, a tuple repeated, index, dicts of ints, two items swapped -/
namespace Sh
open PySem PySem.Spec
      PyProof.Rows L2
/-! ### sorted: tuples of ints -/
/-- ascending by the code -/
def sortC (B : Int) (rows : List (List Int)) : List (List Int) := rows.mergeSort fun a b => decide (TS.code B a ≤ TS.code B b)
theorem sortC_perm (B : Int) (rows : List (List Int)) : (sortC B rows).Perm rows := List.mergeSort_perm _ _
theorem sortC_up (B : Int) (rows : List (List Int)) : (sortC B rows).Pairwise fun a b => TS.code B a ≤ TS.code B b := by
  have h := List.pairwise_mergeSort (le := fun a b => decide (TS.code B a ≤ TS.code B b)) (fun a b c h1 h2 => decide_eq_true (Int.le_trans (of_decide_eq_true h1) (of_decide_eq_true h2))) (fun a b => by
    simp only [Bool.or_eq_true, decide_eq_true_eq]; omega) rows
  exact h.imp fun {a b} q => of_decide_eq_true q
/-- equal codes: equal tuples -/
theorem code_inj {B : Int} : ∀ {a b : List Int}, a.length = b.length → TS.Bd B a → TS.Bd B b → TS.code B a = TS.code B b → a = b
  | [], [], _, _, _, _ => rfl
  | [], _ :: _, h, _, _, _ => by cases h
  | _ :: _, [], h, _, _, _ => by cases h
  | x :: xs, y :: ys, hl, ha, hb, h => by
    have hl' : xs.length = ys.length := by simpa using hl
    rcases Int.lt_trichotomy x y with q | q | q
    · have := TS.code_lt hl' ha.tail hb.tail q
      omega
    · subst q
      have e : TS.code B xs = TS.code B ys := by
        have h' : x * B ^ xs.length + TS.code B xs = x * B ^ ys.length + TS.code B ys := h
        rw [hl'] at h'
        omega
      rw [code_inj hl' ha.tail hb.tail e]
    · have := TS.code_lt hl'.symm hb.tail ha.tail q
      omega
theorem sorted_uniq {α : Type} {r : α → Int} : ∀ {l m : List α}, (∀ x ∈ l, ∀ y ∈ l, r x = r y → x = y) → l.Perm m → l.Pairwise (fun a b => r a ≤ r b) → m.Pairwise (fun a b => r a ≤ r b) → l = m
  | [], m, _, p, _, _ => (List.Perm.eq_nil p.symm).symm
  | x :: l, [], _, p, _, _ => absurd p.length_eq (by simp)
  | x :: l, y :: m, hi, p, hl, hm => by
    have hx : x ∈ y :: m := p.mem_iff.mp List.mem_cons_self
    have hy : y ∈ x :: l := p.mem_iff.mpr List.mem_cons_self
    have e : x = y := by
      refine hi x List.mem_cons_self y hy (Int.le_antisymm ?_ ?_)
      · rcases List.mem_cons.mp hy with z | z
        · rw [z]; exact Int.le_refl _
        · exact (List.pairwise_cons.mp hl).1 y z
      · rcases List.mem_cons.mp hx with z | z
        · rw [z]; exact Int.le_refl _
        · exact (List.pairwise_cons.mp hm).1 x z
    subst e
    rw [sorted_uniq (fun a ha b hb => hi a (List.mem_cons_of_mem _ ha) b (List.mem_cons_of_mem _ hb)) p.cons_inv (List.pairwise_cons.mp hl).2 (List.pairwise_cons.mp hm).2]
theorem RpAll.perm {H : Hp} : ∀ {vs ws : List V} {ds : List PyData}, vs.Perm ws → RpAll H vs ds → ∃ es, ds.Perm es ∧ RpAll H ws es := by
  intro vs ws ds p
  induction p generalizing ds with
  | nil => intro r; exact ⟨ds, .refl _, r⟩
  | cons x _ ih =>
    intro r
    cases r with
    | cons r rs =>
      obtain ⟨es, h1, h2⟩ := ih rs
      exact ⟨_, h1.cons _, .cons r h2⟩
  | swap x y l =>
    intro r
    cases r with
    | cons r1 rs =>
      cases rs with
      | cons r2 rs => exact ⟨_, .swap _ _ _, .cons r2 (.cons r1 rs)⟩
  | trans _ _ ih1 ih2 =>
    intro r
    obtain ⟨es, h1, h2⟩ := ih1 r
    obtain ⟨fs, h3, h4⟩ := ih2 h2
    exact ⟨fs, h1.trans h3, h4⟩
theorem perm_unmap {α β : Type} {f : α → β} : ∀ {l : List α} {m : List β}, (l.map f).Perm m → ∃ l', l.Perm l' ∧ m = l'.map f := by
  intro l m p
  generalize e : l.map f = k at p
  induction p generalizing l with
  | nil => exact ⟨[], by cases l <;> simp at e ⊢, rfl⟩
  | cons x _ ih =>
    cases l with
    | nil => cases e
    | cons a l =>
      simp only [List.map_cons,
            List.cons.injEq] at e
      obtain ⟨l', h1, h2⟩ := ih e.2
      exact ⟨a :: l', h1.cons a, by rw [List.map_cons, e.1, h2]⟩
  | swap x y t =>
    cases l with
    | nil => cases e
    | cons a l =>
      cases l with
      | nil => simp at e
      | cons b l =>
        simp only [List.map_cons,
              List.cons.injEq] at e
        exact ⟨b :: a :: l, .swap _ _ _, by rw [List.map_cons, List.map_cons, e.1, e.2.1, e.2.2]⟩
  | trans _ _ ih1 ih2 =>
    obtain ⟨l1, h1, h2⟩ := ih1 e
    obtain ⟨l2, h3, h4⟩ := ih2 h2.symm
    exact ⟨l2, h1.trans h3, h4⟩
theorem tupI_of {K : PySem.W.Frag} {O : List Addr} {H : Hp} {v : V} {ns : List Int} (r : Rp (hide O H) v (tupE .int ns)) : TupI K H v ns := by
  cases r with
  | tup h rs => exact ⟨_, rfl, SqT.of (by rw [← rs.ints]; exact hide_sub _ _ h)⟩
theorem tupI_pw {K : PySem.W.Frag} {O : List Addr} {H : Hp} {B : Int} : ∀ {ys : List V} {rs : List (List Int)}, RpAll (hide O H) ys (rs.map (tupE .int)) → ys.Pairwise (fun x y => ∀ n m, TupI K H x n → TupI K H y m → TS.code B n ≤ TS.code B m) →
    rs.Pairwise fun a b => TS.code B a ≤ TS.code B b
  | [], [], _, _ => .nil
  | y :: ys, [], r, _ => by cases r
  | [], r0 :: rs, r, _ => by cases r
  | y :: ys, r0 :: rs, r, h => by
    rw [List.map_cons] at r
    cases r with
    | cons r1 r2 =>
      obtain ⟨h1, h2⟩ :=
            List.pairwise_cons.mp h
      refine List.pairwise_cons.mpr ⟨fun b hb => ?_, tupI_pw r2 h2⟩
      obtain ⟨j, hj, e⟩ :=
            List.getElem_of_mem hb
      obtain ⟨v, hv, rv⟩ := r2.get (i := j) (d := tupE .int b) (by rw [List.getElem?_map, List.getElem?_eq_getElem hj, e]; rfl)
      exact h1 v (List.mem_of_getElem? hv) _ _ (tupI_of r1) (tupI_of rv)
section
variable {S : SC} {ds : List Slot} {a b c e o : Expr} {x y z d : PyData} {xs ys : List PyData} {pos p p1 p2 p3 p4 : Pos} {i j l : Int} {k : Bool} {s t : Str} {rows : List (List Int)}
theorem je_sortT {B : Int} {dd : Nat} (hd : 1 ≤ dd) (ha : JE S ds a (lstE (tupE .int) rows)) (hl : rows.length < 64) (hr : ∀ r ∈ rows, r.length = dd ∧ TS.Bd B r) (hm : S.mg ("sorted" : Str) = none) (hg : S.scope.names.lookup ("sorted" : Str) = some .globalImplicit := by rfl)
    (he : ∀ env, starEach [a] env = (false, eval a env) :: starEach [] env := by intro _; rfl) : JE S ds (.Call (.Name "sorted" p) [a] [] pos) (lstE (tupE .int) (sortC B rows)) := by
  refine je_callB (r := rSortU S.K dd B) (fun X h => by rw [← h.K]; exact cr_sortT hd) hm (by decide +kernel) (ja_cons ha ja_nil he) (rdc1 fun O H v dom r Q kq => ?_) hg (by decide) (by decide) he
  cases r with
  | @lst q vs _ h rs =>
    refine ⟨q, vs, rfl, SqL.of (hide_sub _ _ h), by rw [rs.len, List.length_map]; exact hl, fun x hx => ?_, fun ys p hp hw hq => ?_⟩
    · obtain ⟨n, hn, e⟩ := List.getElem_of_mem hx
      obtain ⟨d, hd, rd⟩ := rs.getV (i := n) (v := x) (by rw [List.getElem?_eq_getElem hn, e])
      rw [List.getElem?_map] at hd
      cases z : rows[n]? with
      | none => rw [z] at hd; cases hd
      | some r0 =>
        rw [z] at hd
        cases hd
        obtain ⟨q1, q2⟩ := hr r0 (List.mem_of_getElem? z)
        exact ⟨r0, tupI_of rd, q1, q2⟩
    · obtain ⟨es, h1, h2⟩ := rs.perm hp.symm
      obtain ⟨rows', h3, rfl⟩ := perm_unmap h1
      have e : rows' = sortC B rows := by
        refine sorted_uniq (r := TS.code B) (fun x hx y hy q => ?_) (h3.symm.trans (sortC_perm B rows).symm) (tupI_pw h2 hw) (sortC_up B rows)
        obtain ⟨a1, a2⟩ := hr x (h3.mem_iff.mpr hx)
        obtain ⟨b1, b2⟩ := hr y (h3.mem_iff.mpr hy)
        exact code_inj (by rw [a1, b1]) a2 b2 q
      subst e
      exact kq _ _ (Same.upd_new hq) (new_rp dom hq h2)
/-! ### (x,) * n -/
end
section
variable {X : Cx}
theorem tuple_mul1 (l : Addr) (its : Array Value) (n : Nat) (dd : Option Addr) (sl : Array (Option Value)) (u : Tok) :
    Meets (Builtin.«tuple.__mul__» ⟨[.ref l, .int 1 u], []⟩) (fun _ R s => s.heap.get? l = some { cls := .type "tuple", dict := dd, data := .seq its n, slots := sl } ∧ R (.ok (.ret (.ref l))) s) :=
  .of_wp fun prog
        w A R s h => by
    obtain ⟨hp, g,
          d, tk, os⟩ := s
    obtain ⟨hl, h⟩ := h
    have f1 := AutoSeq1.idx_int
    wp_walk using
          wpAny_loadPart' hl
    first
      | exact ⟨_, rfl, h⟩
      | (refine wpAny_ite_true ?_ ?_ <;> first | (simp; done) | (wp_walk using wpAny_loadPart' hl; exact ⟨_, rfl, h⟩))
def rRep1 (K : PySem.W.Frag) : R2 := fun x y H Q => ∃ l xs, x = .ref l ∧ y = .int 1 ∧ SqT K H l xs ∧ Q (.ref l) H
theorem op_rep1 : OpR X (binaryOp .Mult) (rRep1 X.K) := by
  intro pins s σ H x
        y v u Q I rx ry h
  obtain ⟨l, xs, rfl, rfl, hT, q⟩ := h
  cases rx
  obtain ⟨t, rfl⟩ := ry
  obtain ⟨its, r, ⟨⟨cls, dd, data, sl⟩,
        ho, hc, n, hd⟩, hs⟩ := I.tuple hT
  simp only at hc hd
  subst hc hd
  refine wpAny_binaryOp_repeat_ref (T := "tuple") (U := "int") (by decide) ⟨_, ho, rfl⟩ (fun s' => typeIs_int s' 1 t) noFill_tuple_mul F.fills_int_mul F.slot_int_rmul repeat_tuple F.slot_int_index.lookup
    (call_meets F.slot_int_rmul (typeIs_int s 1 t) F.entry_int_rmul (F.args_int_rmul_2 _ _) (int_rmul_tuple 1 t l its.toArray n dd sl)
      ⟨ho, rfl, ⟨_, ho, rfl⟩, call_meets F.slot_tuple_mul ⟨_, ho, rfl⟩ F.entry_tuple_mul (F.args_tuple_mul_2 _ _) (tuple_mul1 l its.toArray n dd sl t) ⟨ho, ⟨.ref l, H, I, rfl, q⟩⟩⟩)
end
section
variable {S : SC} {ds : List Slot} {a b c e o : Expr} {x y z d : PyData} {xs ys : List PyData} {pos p p1 p2 p3 p4 : Pos} {i j l : Int} {k : Bool} {s t : Str} {rows : List (List Int)}
theorem je_repT (ha : JE S ds a (.tuple [x])) (hb : JE S ds b (.int i)) (h1 : 1 ≤ i) (h2 : i ≤ 1000) : JE S ds (.BinOp a .Mult b pos) (.tuple (List.replicate i.toNat x)) := by
  by_cases hi : i = 1
  · subst hi
    exact je_op (r := rRep1 S.K) (fun X h => by rw [← h.K]; exact op_rep1) ha hb fun O H v w dom r1 r2 Q kq => by
      cases r2
      have r1' := r1
      cases r1 with
      | tup h rs => exact ⟨_, _, rfl, rfl, SqT.of (K := S.K) (hide_sub _ _ h), kq _ H (Same.refl H) r1'⟩
  · exact je_op (r := rRepT S.K) (fun X h => by rw [← h.K]; exact op_repT) ha hb fun O H v w dom r1 r2 Q kq => by
      cases r2
      cases r1 with
      | @tup q vs _ h rs =>
        have e := rpAll_rep rs i.toNat
        have ef : (List.replicate i.toNat [x]).flatten = List.replicate i.toNat x := by
          generalize i.toNat = n
          induction n with
          | zero => rfl
          | succ n ih => rw [List.replicate_succ, List.flatten_cons, ih]; rfl
        rw [ef] at e
        have hl := rs.len
        exact ⟨_, _, _, rfl, rfl, SqT.of (K := S.K) (hide_sub _ _ h), (fun z => by rw [z] at hl; cases hl), by omega, h2, by rw [hl]; show 1 ≤ 1000; decide, fun q hq => kq _ _ (Same.upd_new hq) (new_rpT dom hq e)⟩
/-! ### xs.index(x), flat things -/
theorem je_index {an : Str} {jj : Nat} {w : PyData} (ha : JE S ds a (.list xs)) (hb : JE S ds b y) (hx : xs.all flatD = true) (hy : flatD y = true) (h1 : xs[jj]? = some w) (h2 : PyData.eqv w y = true) (h3 : ∀ m z, m < jj → xs[m]? = some z → PyData.eqv z y = false)
    (hn : an = "index" := by rfl) (hbase : ∀ env, attributeBase a an env (eval a env) = eval a env := by intro _; rfl) (hs : ∀ env, starEach [b] env = (false, eval b env) :: starEach [] env := by intro _; rfl) (hl : (p1.endLine == p2.line) = true := by rfl)
    (hfew : ∀ env, ((backTo p2 (starEach [b] env)).all (fun x => !x.1) && (backToKw p2 (keywordEach [] env)).all (fun x => x.1.isSome) && decide ([b].length + ([] : List Keyword).length + (if ([] : List Keyword).isEmpty then 0 else 1) < 30)) = true := by intro _; rfl) :
    JE S ds (.Call (.Attribute a an p1) [b] [] p2) (.int (jj : Nat)) := by
  subst hn
  intro O σ H st Q kq
  refine te_mk (t := tBM S.K "list" (rIndex S.K) (teOf S a) (taOf S [b])) (fun X h => by rw [← h.K]; exact pe_bm PySem.F.plainAttrs_list PySem.F.slot_list_index PySem.F.type_list_index mt_index (pe_teOf h) (pa_taOf h) (hbase _) (hfew _) hl (hs _) (by rfl)) ?_
  refine ha O σ H st _ fun v H1 e1 r1 => ?_
  cases r1 with
  | @lst q vs _ h rs =>
    refine ⟨.inl ⟨rfl, vs, SqL.of (hide_sub _ _ h)⟩, ?_⟩
    refine ja_cons hb ja_nil hs O σ H1 (st.mono e1) _ fun ws H2 e2 r2 => ?_
    cases r2 with
    | cons r rr =>
      cases rr
      have h' := hide_same e2 _ _ h
      have rs' := rs.mono (hide_same e2)
      obtain ⟨v, hv, rv⟩ := rs'.get h1
      have hfl : ∀ {m : Nat} {z : V}, vs[m]? = some z → ∃ dz, xs[m]? = some dz ∧ Rp (hide O H2) z dz ∧ flatD dz = true := fun {m z} hz => by
        obtain ⟨dz, e1, e2⟩ := rs'.getV hz
        exact ⟨dz, e1, e2, List.all_eq_true.mp hx dz (List.mem_of_getElem? e1)⟩
      obtain ⟨dv, ev1, ev2, ev3⟩ := hfl hv
      rw [h1] at ev1
      cases ev1
      refine ⟨q, vs, _, jj, v, rfl, rfl, SqL.of (hide_sub _ _ h'), r.flat hy, List.all_eq_true.mpr fun z hz => ?_, hv, by rw [ev2.eqvF r ev3 hy]; exact h2, fun m z hm hz => ?_, kq _ H2 (e1.trans e2) (.int _)⟩
      · obtain ⟨m, hm, e⟩ := List.getElem_of_mem hz
        obtain ⟨dz, _, e4, e5⟩ := hfl (m := m) (z := z) (by rw [List.getElem?_eq_getElem hm, e])
        exact e4.flat e5
      · obtain ⟨dz, e3, e4, e5⟩ := hfl hz
        rw [e4.eqvF r e5 hy]
        exact h3 m dz hm e3
/-! ### dicts of ints -/
def kvV (kvs : List (Int × Int)) : List (Key × V) := kvs.map fun kv => (.inl kv.1, .int kv.2)
theorem putK_fresh : ∀ {acc : List (Int × Int)} {k v : Int}, (∀ q ∈ acc, q.1 ≠ k) → putK (kvV acc) (.inl k) (.int v) = kvV (acc ++ [(k, v)]) := fun {acc k v} h => by
  have e : valV (kvV acc) (Sum.inl k : Key) = none := by
    induction acc with
    | nil => rfl
    | cons q acc ih =>
      have hq : ¬ (Sum.inl q.1 : Key) = Sum.inl k := fun z => h q List.mem_cons_self (Sum.inl.inj z)
      show valV ((Sum.inl q.1, V.int q.2) :: kvV acc) _ = none
      rw [valV_neg hq]
      exact ih fun z hz => h z (List.mem_cons_of_mem _ hz)
  rw [putK_new _ e]
  unfold kvV
  rw [List.map_append]
  rfl
theorem mergeK_fresh : ∀ {kvs acc : List (Int × Int)}, ((acc ++ kvs).map (·.1)).Nodup → mergeK (kvV acc) (kvV kvs) = kvV (acc ++ kvs)
  | [], acc, _ => by rw [List.append_nil]; rfl
  | q :: kvs, acc, h => by
    have h1 : ∀ z ∈ acc, z.1 ≠ q.1 := fun z hz e => by
      rw [List.map_append, List.map_cons] at h
      have := (List.nodup_append.mp h).2.2 z.1 (List.mem_map.mpr ⟨z, hz, rfl⟩) q.1 List.mem_cons_self
      exact this e
    have h2 : mergeK (kvV acc) (kvV (q :: kvs)) = mergeK (putK (kvV acc) (.inl q.1) (.int q.2)) (kvV kvs) := rfl
    rw [h2, putK_fresh h1, mergeK_fresh (by rw [List.append_assoc]; exact h), List.append_assoc]
    rfl
theorem pairs_at {K : PySem.W.Frag} {O : List Addr} {H : Hp} : ∀ {kvs : List (Int × Int)} {vs : List V}, RpAll (hide O H) vs (kvs.map fun kv => .tuple [.int kv.1, .int kv.2]) →
    ∃ ps : List Addr, vs = ps.map V.ref ∧ Paired (fun p kv => SqT K H p [kV kv.1, kv.2]) ps (kvV kvs)
  | [], _, r => by cases r; exact ⟨[], rfl, .nil⟩
  | q :: kvs, _, r => by
    rw [List.map_cons] at r
    cases r with
    | cons r rs =>
      obtain ⟨ps, e, hp⟩ := pairs_at (K := K) rs
      cases r with
      | @tup a us _ h ru =>
        have hu : us = [V.int q.1, V.int q.2] := RpAll.ints (ns := [q.1, q.2]) ru
        subst hu
        exact ⟨a :: ps, by rw [List.map_cons, e], .cons (SqT.of (hide_sub _ _ h)) hp⟩
theorem js_asgDict {m : Bool} {n : Nat} {p' : Pos} {rest : List Stmt} {D : DEnds} {kvs : List (Int × Int)} (ha : JE S ds a (.list (kvs.map fun kv => .tuple [.int kv.1, .int kv.2]))) (hnd : (kvs.map (·.1)).Nodup) (k : JS S m rest (ds.set n (.dct kvs)) D) (hm : S.mg ("dict" : Str) = none)
    (hN : S.N[n]? = some t := by rfl) (hx : Loc S.scope t := by first | exact Or.inl rfl | exact Or.inr rfl) (hf : S.fn t = true ∨ S.scope.names.lookup t = some .local := by first | exact Or.inl rfl | exact Or.inr rfl)
    (hg : S.scope.names.lookup ("dict" : Str) = some .globalImplicit := by rfl)
    (he : ∀ env, starEach [a] env = (false, eval a env) :: starEach [] env := by intro _; rfl)
    (hs : ∀ env : Env, env.scope = S.scope → swapsWith (.Call (.Name "dict" p) [a] [] p1) (some (.Name t p')) pos.line env = pure false := by intro _ _; rfl) : JS S m (.Assign [.Name t p'] (.Call (.Name "dict" p) [a] [] p1) pos :: rest) ds D := by
  intro Oe Fz O H σ s E hE
  refine ts_cons (ts := tAsg (tCB (fun xs H Q => ∃ (a : Addr) (ps : List Addr) (kvs : List (Key × V)), xs = [.ref a] ∧ SqL S.K H a (ps.map V.ref) ∧ Paired (fun p kv => SqT S.K H p [kV kv.1, kv.2]) ps kvs ∧
    ∀ p, H p = none → Q (.ref p) (upd H p (.dK (mergeK [] kvs)))) (tCons (teOf S a) tNil)) (gName n)) (fun X h => ps_set (h.N ▸ h.nd) (h.N ▸ hN) (h.scope ▸ hx) (by
      rw [← h.K]
      exact pe_callTy (call_dictP h.calm) (gl_of h hg) (h.mg ▸ hm) PyProof.Rows.boot_dict (pa_cons (pe_teOf h) pa_nil (he _)) (by decide) (by decide) (he _)) (hs _ h.scope) (by rw [h.fn, h.scope]; exact hf)) ?_
  refine ha O σ H s.st _ fun v H1 e1 r1 => ?_
  cases r1 with
  | @lst q vs _ h rs =>
    obtain ⟨ps, rfl, hp⟩ := pairs_at (K := S.K) rs
    refine ⟨q, ps, kvV kvs, rfl, SqL.of (hide_sub _ _ h), hp, fun z hz => ?_⟩
    have em : mergeK [] (kvV kvs) = kvV kvs := mergeK_fresh (acc := []) (by simpa using hnd)
    rw [em]
    have s1 := (s.mono e1).mono (Same.upd_new (o := .dK (kvV kvs)) hz)
    refine k Oe Fz O _ _ ⟨s1.sub, s1.ext, fun jj xs l q1 q2 => ?_, s1.new, ⟨by rw [List.length_set, List.length_set, s1.st.len], fun jj sl q1 => ?_, fun jj kk xs ys l q1 q2 hjk q3 => ?_, s1.st.dom⟩, s1.fd⟩ E hE
    · have hj : n ≠ jj := fun z => by
        subst z
        have hi : n < ds.length := by
          have := (List.getElem?_eq_some_iff.mp q1).1
          rwa [List.length_set] at this
        rw [List.getElem?_set_self hi] at q1
        cases q1
      rw [List.getElem?_set_ne hj] at q1 q2
      exact s1.own jj xs l q1 q2
    · by_cases hj : n = jj
      · subst hj
        have hi : n < ds.length := by
          have := (List.getElem?_eq_some_iff.mp q1).1
          rwa [List.length_set] at this
        rw [List.getElem?_set_self hi] at q1
        cases q1
        refine ⟨some (.ref z), List.getElem?_set_self (by rw [s1.st.len]; exact hi), z, rfl, ?_⟩
        rw [hide_out (not_in_of_new (dom_mono s.st.dom e1) hz), upd_same]
        rfl
      · rw [List.getElem?_set_ne hj] at q1
        rw [List.getElem?_set_ne hj]
        exact s1.st.sl jj sl q1
    · have no : ∀ {mm : Nat} {zs : List PyData}, (ds.set n (.dct kvs))[mm]? = some (Slot.own zs) → n ≠ mm ∧ ds[mm]? = some (.own zs) := fun {mm zs} q => by
        by_cases hm : n = mm
        · subst hm
          have hi : n < ds.length := by
            have := (List.getElem?_eq_some_iff.mp q).1
            rwa [List.length_set] at this
          rw [List.getElem?_set_self hi] at q
          cases q
        · rw [List.getElem?_set_ne hm] at q
          exact ⟨hm, q⟩
      obtain ⟨n1, q1⟩ := no q1
      obtain ⟨n2, q2⟩ := no q2
      rw [List.getElem?_set_ne n1] at q3
      rw [List.getElem?_set_ne n2]
      exact s1.st.ap jj kk xs ys l q1 q2 hjk q3
/-- what stands for k, else d -/
def dgetD (kvs : List (Int × Int)) (k d : Int) : Int := ((kvs.find? fun kv => decide (kv.1 = k)).map (·.2)).getD d
theorem valV_kv (k : Int) : ∀ kvs : List (Int × Int), valV (kvV kvs) (Sum.inl k : Key) = ((kvs.find? fun kv => decide (kv.1 = k)).map (·.2)).map V.int
  | [] => rfl
  | q :: kvs => by
    show valV ((Sum.inl q.1, V.int q.2) :: kvV kvs) _ = _
    by_cases e : q.1 = k
    · rw [valV_pos (show (Sum.inl q.1 : Key) = Sum.inl k by rw [e]), List.find?_cons]
      simp [e]
    · rw [valV_neg (show ¬ (Sum.inl q.1 : Key) = Sum.inl k from fun z => e (Sum.inl.inj z)), valV_kv k kvs, List.find?_cons]
      simp [e]
theorem je_dget {an : Str} {n : Nat} {kvs : List (Int × Int)} (hi : ds[n]? = some (.dct kvs)) (hb : JE S ds b (.int i)) (hc : JE S ds c (.int j)) (hn : an = "get" := by rfl) (hN : S.N[n]? = some t := by rfl)
    (hv : Vis S.scope t := by first | exact Or.inl rfl | exact Or.inr (Or.inl rfl) | exact Or.inr (Or.inr rfl)) (h1 : (t == ("__debug__" : Str)) = false := by decide) (h2 : (t == ("__classdict__" : Str)) = false := by decide)
    (hbase : ∀ env, attributeBase (.Name t p) an env (eval (.Name t p) env) = eval (.Name t p) env := by intro _; rfl) (hl : (p1.endLine == p2.line) = true := by rfl)
    (hfew : ∀ env, ((backTo p2 (starEach [b, c] env)).all (fun x => !x.1) && (backToKw p2 (keywordEach [] env)).all (fun x => x.1.isSome) && decide (([b, c] : List Expr).length + ([] : List Keyword).length + (if ([] : List Keyword).isEmpty then 0 else 1) < 30)) = true := by intro _; rfl)
    (htr : ∀ env, backTo p2 (starEach [b, c] env) = [(false, eval b env), (false, eval c env)] := by intro _; rfl) :
    JE S ds (.Call (.Attribute (.Name t p) an p1) [b, c] [] p2) (.int (dgetD kvs i j)) := by
  subst hn
  intro O σ H st Q kq
  obtain ⟨x, q1, a, rfl, q2⟩ := st.sl n _ hi
  refine te_mk (t := tDGet2 (tVar n) (teOf S b) (teOf S c)) (fun X h => pe_dget2 (by have := h.room.units; omega) (pe_var (i := n) (h.N ▸ hN) (h.scope ▸ hv) h1 h2) (pe_teOf h) (pe_teOf h) ⟨hbase _, hfew _, hl, htr _⟩) ?_
  refine ⟨_, q1, a, rfl, .inl ⟨_, .inl (hide_sub _ _ q2)⟩, ?_⟩
  refine hb O σ H st _ fun v H1 e1 r1 => hc O σ H1 (st.mono e1) _ fun w H2 e2 r2 => ?_
  cases r1
  cases r2
  have e12 := e1.trans e2
  refine ⟨_, .inl ⟨_, .inl i, .inl (e12 _ _ (hide_sub _ _ q2)), rfl, rfl⟩, ?_⟩
  have ev : (valV (kvs.map fun kv => ((.inl kv.1 : Key), V.int kv.2)) (Sum.inl i)).getD (V.int j) = V.int (dgetD kvs i j) := by
    rw [show (kvs.map fun kv => ((.inl kv.1 : Key), V.int kv.2)) = kvV kvs from rfl, valV_kv]
    unfold dgetD
    cases (kvs.find? fun kv => decide (kv.1 = i)) <;> rfl
  rw [ev]
  exact kq _ H2 e12 (.int _)
/-! ### xs[i], xs[j] = .. -/
theorem RpAll.two {H : Hp} {ws : List V} {d1 d2 : PyData} (r : RpAll H ws [d1, d2]) : ∃ va vb, ws = [va, vb] ∧ Rp H va d1 ∧ Rp H vb d2 := by
  cases r with
  | cons ra rr =>
    cases rr with
    | cons rb rr =>
      cases rr
      exact ⟨_, _, rfl, ra, rb⟩
theorem js_setTwo {m : Bool} {n k3 k4 j1 j2 : Nat} {e1 e2 i1 i2 : Expr} {d1 d2 : PyData} {v1 v2 : Int} {q1 q2 q3 q4 q5 q6 : Pos} {rest : List Stmt} {D : DEnds} (hi : ds[n]? = some (.own xs)) (ha : JE S ds e1 d1) (hb : JE S ds e2 d2)
    (h1 : JE S ds i1 (.int v1)) (h2 : JE S (ds.set n (.own (xs.set j1 d1))) i2 (.int v2)) (hv1 : ixN xs.length v1 = some j1) (hv2 : ixN xs.length v2 = some j2)
    (k : JS S m rest (ds.set n (.own ((xs.set j1 d1).set j2 d2))) D) (hN : S.N[n]? = some t := by rfl)
    (hvv : Vis S.scope t := by first | exact Or.inl rfl | exact Or.inr (Or.inl rfl) | exact Or.inr (Or.inr rfl)) (hn1 : (t == ("__debug__" : Str)) = false := by decide) (hn2 : (t == ("__classdict__" : Str)) = false := by decide)
    (hs : ∀ env, swapsWithSole [.Tuple [.Subscript (.Name t q1) i1 q2, .Subscript (.Name t q3) i2 q4] k3 q5] (.Tuple [e1, e2] k4 q6) pos.line env = pure false := by intro _; rfl)
    (hw : swappedStores [.Tuple [.Subscript (.Name t q1) i1 q2, .Subscript (.Name t q3) i2 q4] k3 q5] (.Tuple [e1, e2] k4 q6) (envS S.scope) = pure none := by rfl)
    (c1 : ∀ env, starEach [e1, e2] env = (false, eval e1 env) :: starEach [e2] env := by intro _; rfl) (c2 : ∀ env, starEach [e2] env = (false, eval e2 env) :: starEach [] env := by intro _; rfl)
    (g1 : ∀ env, (assignEach [.Subscript (.Name t q1) i1 q2, .Subscript (.Name t q3) i2 q4] env).length = 2 := by intro _; rfl) (g2 : ∀ env, (assignEach [.Subscript (.Name t q1) i1 q2, .Subscript (.Name t q3) i2 q4] env).findIdx? (·.1) = none := by intro _; rfl)
    (f1 : ∀ env v, assign (.Subscript (.Name t q1) i1 q2) env v = (do let ov ← holding [v] (eval (.Name t q1) env); let iv ← holding [v, ov] (eval i1 env); standAt q2; holding [v, ov, iv] (setItem ov iv v); release [v, ov, iv] []) := by intro _ _; rfl)
    (f2 : ∀ env v, assign (.Subscript (.Name t q3) i2 q4) env v = (do let ov ← holding [v] (eval (.Name t q3) env); let iv ← holding [v, ov] (eval i2 env); standAt q4; holding [v, ov, iv] (setItem ov iv v); release [v, ov, iv] []) := by intro _ _; rfl)
    (f3 : ∀ env, (assignEach [.Subscript (.Name t q1) i1 q2, .Subscript (.Name t q3) i2 q4] env).map (·.2) = assign (.Subscript (.Name t q1) i1 q2) env :: (assignEach [.Subscript (.Name t q3) i2 q4] env).map (·.2) := by intro _; rfl)
    (f4 : ∀ env, (assignEach [.Subscript (.Name t q3) i2 q4] env).map (·.2) = assign (.Subscript (.Name t q3) i2 q4) env :: (assignEach [] env).map (·.2) := by intro _; rfl) :
    JS S m (.Assign [.Tuple [.Subscript (.Name t q1) i1 q2, .Subscript (.Name t q3) i2 q4] k3 q5] (.Tuple [e1, e2] k4 q6) pos :: rest) ds D := by
  intro Oe Fz O H σ s E hE
  obtain ⟨l, vs, hl1, lO, hl2, rl⟩ := s.st.ownAt hi
  have hnb : n < ds.length := (List.getElem?_eq_some_iff.mp hi).1
  refine ts_cons (ts := tAsg (tTup (taOf S [e1, e2])) (gTup S.K 2 (gCons (gSub (tVar n) (teOf S i1) rSetL) (gCons (gSub (tVar n) (teOf S i2) rSetL) gNil)))) (fun X h => by
    rw [← h.K]
    exact ps_asg (pe_tup (pa_taOf h)) (pg_tup h.calm (pgs_cons (pg_sub (pe_var (i := n) (h.N ▸ hN) (h.scope ▸ hvv) hn1 hn2) (pe_teOf h) set_list (f1 _)) (pgs_cons (pg_sub (pe_var (i := n) (h.N ▸ hN) (h.scope ▸ hvv) hn1 hn2) (pe_teOf h) set_list (f2 _)) pgs_nil (f4 _)) (f3 _)) (g1 _) (g2 _)) (hs _) ((swapped_env h.scope).trans hw)) ?_
  refine ja_cons ha (ja_cons hb ja_nil c2) c1 O σ H s.st _ fun ws H1 e1 r1 => ?_
  obtain ⟨va, vb, rfl, ra, rb⟩ := r1.two
  refine ⟨by rw [sizeLine_eq]; simp, fun T hT => ?_⟩
  have e2 : Same H (upd H1 T (.tup [va, vb])) := e1.trans (Same.upd_new (o := .tup [va, vb]) hT)
  have s2 := s.mono e2
  refine ⟨T, _, rfl, SqT.of upd_same, rfl, _, _, rfl, ?_⟩
  refine ⟨_, hl1, ?_⟩
  refine h1 O σ _ s2.st _ fun u H3 e3 r3 => ?_
  cases r3
  have e23 := e2.trans e3
  refine ⟨l, vs, v1, j1, rfl, rfl, e23 _ _ hl2, by rw [rl.len]; exact hv1, ?_⟩
  have eb := (Same.upd_new (o := .tup [va, vb]) hT).trans e3
  have s3 := (s.mono e23).write hi hl1 (e23 _ _ hl2) ((rl.mono (hide_same e23)).set j1 (ra.mono (hide_same eb)))
  refine ⟨_, _, rfl, ?_⟩
  refine ⟨_, hl1, ?_⟩
  refine h2 O σ _ s3.st _ fun u H4 e4 r4 => ?_
  cases r4
  have lw : H4 l = some (.lst (vs.set j1 _)) := e4 _ _ upd_same
  refine ⟨l, _, v2, j2, rfl, rfl, lw, by rw [List.length_set, rl.len]; exact hv2, rfl, ?_⟩
  have s4 := s3.mono e4
  have hi4 : (ds.set n (.own (xs.set j1 d1)))[n]? = some (.own (xs.set j1 d1)) := List.getElem?_set_self hnb
  have eo : Same (hide O H3) (hide O H4) := by
    have := hide_same (O := O) e4
    rw [hide_upd lO] at this
    exact this
  have s5 := s4.write hi4 hl1 lw (((rl.mono ((hide_same e23).trans eo)).set j1 (ra.mono ((hide_same eb).trans eo))).set j2 (rb.mono ((hide_same eb).trans eo)))
  rw [List.set_set] at s5
  exact k Oe Fz O _ σ s5 E hE
end
end Sh


set_option Elab.async false
set_option linter.all false
set_option maxRecDepth 100000
set_option maxHeartbeats 40000000
set_option autoImplicit false
/-! FB: what the defs' proofs use -/
namespace Sh
open PySem PySem.Spec
      PyProof.Rows L2
/-- the defs with defaults -/
def dflts : List (Str × Stmt × List V) := [(("want" : Str), s_want, [.int (-1)]), (("want_place" : Str), s_want_place, [.str "place"])]
/-- what is known of the names behind the top -/
structure Lib (K : PySem.W.Frag) (mg : Str → Option Value) (fns : List (Str × Stmt)) (bls : List Str) : Prop where
  fn : ∀ (i : Nat) (x : Str) (st : Stmt), fns[i]? = some (x, st) → ∃ f fd, FnP K x st f fd ∧ mg x = some (.ref f)
  bl : ∀ x ∈ bls, mg x = none
  df : ∀ (i : Nat) (x : Str) (st : Stmt) (dvs : List V), dflts[i]? = some (x, st, dvs) → ∃ f fd, FunD K x x (defArgs st) (defBody st) (defScope st) dvs [] f fd ∧ mg x = some (.ref f)
def digD : Option Int → PyData
  | none => .none
  | some i => .int i
abbrev tI (ws : List Int) : PyData := tupE .int ws
abbrev lI (ws : List Int) : PyData := lstE .int ws
abbrev tTI (rows : List (List Int)) : PyData := tupE (tupE .int) rows
abbrev lTI (rows : List (List Int)) : PyData := lstE (tupE .int) rows
abbrev lLI (rows : List (List Int)) : PyData := lstE (lstE .int) rows
def bookD (p n : Int) (rows : List (List Int)) : PyData := .tuple [.int p, .int n, tTI rows]
section
variable {S : SC} {α : Type} {m : Bool} {ds : List Slot} {tg a b c e elt iter : Expr} {items : List α} {p pos p' : Pos} {i j : Nat} {rest B1 B2 body : List Stmt} {D : DEnds} {t : Str} {d x y : PyData} {k : Bool} {u v : Int}
theorem je_iteI (hc : JT S ds c k) (h1 : k = true → JE S ds a (.int u)) (h2 : k = false → JE S ds b (.int v)) : JE S ds (.IfExp c a b pos) (.int (if k = true then u else v)) := by
  refine je_if hc (fun h => (h1 h).is ?_) fun h => (h2 h).is ?_
  · rw [if_pos h]
  · rw [if_neg (by rw [h]; decide)]
theorem je_ite (hc : JT S ds c k) (h1 : k = true → JE S ds a x) (h2 : k = false → JE S ds b y) : JE S ds (.IfExp c a b pos) (if k = true then x else y) := by
  refine je_if hc (fun h => (h1 h).is ?_) fun h => (h2 h).is ?_
  · rw [if_pos h]
  · rw [if_neg (by rw [h]; decide)]
theorem filt_all {l : List α} : (l.filter fun _ => true) = l := List.filter_eq_self.mpr fun _ _ => rfl
/-- [elt for tg in iter] -/
theorem je_lcm {scope : Scope} {own : List (Str × Nat)} {g : TG} {js : List Nat} {row : α → List PyData} {f : α → PyData} (own_ : own = own) (hw : JW S ds tg iter g js items row) (hg : ∀ X, (S.blk scope).Holds X → PG X tg g)
    (he : ∀ a ∈ items, JE (S.blk scope) (setD (wipeD ds (own.map (·.2))) js (row a)) elt (f a)) (hz : items.length ≤ 1000000) (ok : blkC S.N S.scope scope own = true := by rfl) (hjs : ∀ j ∈ js, j ∈ own.map (·.2) := by decide)
    (hs : ∀ env x, foldedSetIterable iter env x = pure x := by intro _ _; rfl) : JE S ds (.ListComp elt [⟨tg, iter, [], 0⟩] scope pos) (.list (items.map f)) := by
  have q := je_lc (pos := pos) (pr := fun _ => true) own_ hw hg ok hjs hz (fun a ha => jc_nil) (fun a ha _ => he a ha) hs
  rw [filt_all] at q
  exact q
/-- [elt for tg in iter if c] -/
theorem je_lcf {scope : Scope} {own : List (Str × Nat)} {g : TG} {js : List Nat} {row : α → List PyData} {pr : α → Bool} {f : α → PyData} (own_ : own = own) (hw : JW S ds tg iter g js items row) (hg : ∀ X, (S.blk scope).Holds X → PG X tg g)
    (ht : ∀ a ∈ items, JT (S.blk scope) (setD (wipeD ds (own.map (·.2))) js (row a)) c (pr a)) (he : ∀ a ∈ items, pr a = true → JE (S.blk scope) (setD (wipeD ds (own.map (·.2))) js (row a)) elt (f a)) (hz : items.length ≤ 1000000)
    (ok : blkC S.N S.scope scope own = true := by rfl) (hjs : ∀ j ∈ js, j ∈ own.map (·.2) := by decide)
    (hs : ∀ env x, foldedSetIterable iter env x = pure x := by intro _ _; rfl) : JE S ds (.ListComp elt [⟨tg, iter, [c], 0⟩] scope pos) (.list ((items.filter pr).map f)) :=
  je_lc own_ hw hg ok hjs hz (fun a ha => jc_one (ht a ha)) he hs
/-- t = [elt for tg in iter] -/
theorem js_asgM {scope : Scope} {own : List (Str × Nat)} {g : TG} {js : List Nat} {row : α → List PyData} {f : α → PyData} {lp : Pos} (own_ : own = own) (hw : JW S ds tg iter g js items row) (hg : ∀ X, (S.blk scope).Holds X → PG X tg g)
    (he : ∀ a ∈ items, JE (S.blk scope) (setD (wipeD ds (own.map (·.2))) js (row a)) elt (f a)) (hz : items.length ≤ 1000000) (hd : PyData.list (items.map f) = d)
    (k : JS S m rest (ds.set i (.val d)) D) (ok : blkC S.N S.scope scope own = true := by rfl) (hjs : ∀ j ∈ js, j ∈ own.map (·.2) := by decide)
    (hN : S.N[i]? = some t := by rfl) (hyl : S.scope.names.lookup t = some .local := by rfl) (hk : S.scope.kind = .function := by rfl) (hl : (p'.line == lp.line) = true := by rfl)
    (ha : (scope.names.any fun (n, k) => n == t && (k == .local || k == .cell)) = false := by rfl)
    (hs : ∀ env x, foldedSetIterable iter env x = pure x := by intro _ _; rfl) : JS S m (.Assign [.Name t p'] (.ListComp elt [⟨tg, iter, [], 0⟩] scope lp) pos :: rest) ds D := by
  refine js_asgLc (pr := fun _ => true) own_ hw hg ok hjs hz (fun a ha => jc_nil) (fun a ha _ => he a ha) ?_ hN hyl hk hl ha hs
  rw [filt_all, hd]
  exact k
theorem js_asgFl {scope : Scope} {own : List (Str × Nat)} {g : TG} {js : List Nat} {row : α → List PyData} {pr : α → Bool} {f : α → PyData} {lp : Pos} (own_ : own = own) (hw : JW S ds tg iter g js items row) (hg : ∀ X, (S.blk scope).Holds X → PG X tg g)
    (ht : ∀ a ∈ items, JT (S.blk scope) (setD (wipeD ds (own.map (·.2))) js (row a)) c (pr a)) (he : ∀ a ∈ items, pr a = true → JE (S.blk scope) (setD (wipeD ds (own.map (·.2))) js (row a)) elt (f a)) (hz : items.length ≤ 1000000) (hd : PyData.list ((items.filter pr).map f) = d)
    (k : JS S m rest (ds.set i (.val d)) D) (ok : blkC S.N S.scope scope own = true := by rfl) (hjs : ∀ j ∈ js, j ∈ own.map (·.2) := by decide)
    (hN : S.N[i]? = some t := by rfl) (hyl : S.scope.names.lookup t = some .local := by rfl) (hk : S.scope.kind = .function := by rfl) (hl : (p'.line == lp.line) = true := by rfl)
    (ha : (scope.names.any fun (n, k) => n == t && (k == .local || k == .cell)) = false := by rfl)
    (hs : ∀ env x, foldedSetIterable iter env x = pure x := by intro _ _; rfl) : JS S m (.Assign [.Name t p'] (.ListComp elt [⟨tg, iter, [c], 0⟩] scope lp) pos :: rest) ds D := by
  refine js_asgLc own_ hw hg ok hjs hz (fun a ha => jc_one (ht a ha)) he ?_ hN hyl hk hl ha hs
  rw [hd]
  exact k
/-- the same, the name a cell -/
theorem js_asgE (he : JE S ds e x) (hd : x = d) (k : JS S m rest (ds.set i (.val d)) D) (hN : S.N[i]? = some t := by rfl) (hx : Loc S.scope t := by first | exact Or.inl rfl | exact Or.inr rfl) (hf : S.fn t = true ∨ S.scope.names.lookup t = some .local := by first | exact Or.inl rfl | exact Or.inr rfl)
    (hs : ∀ env : Env, env.scope = S.scope → swapsWith e (some (.Name t p')) pos.line env = pure false := by intro _ _; rfl) : JS S m (.Assign [.Name t p'] e pos :: rest) ds D := js_asg he (hd ▸ k) hN hx hf hs
theorem js_asgCell {elt : Expr} {gs : List Comprehension} {scope : Scope} {lp : Pos} (he : JE S ds (.ListComp elt gs scope lp) x) (hd : x = d) (k : JS S m rest (ds.set i (.val d)) D) (hy : S.scope.names.lookup t = some .cell := by rfl) (hN : S.N[i]? = some t := by rfl)
    (hf : S.fn t = true ∨ S.scope.names.lookup t = some .local := by first | exact Or.inl rfl | exact Or.inr rfl) : JS S m (.Assign [.Name t p'] (.ListComp elt gs scope lp) pos :: rest) ds D :=
  js_asg he (hd ▸ k) hN (.inr hy) hf fun env h => swap_cell (by rw [h]; exact hy)
theorem js_retE (he : JE S ds e x) (hd : x = d) (k : D.rt d) : JS S m (.Return (some e) pos :: rest) ds D := js_ret (d := d) (hd ▸ he) k
/-- a condition's two ways, each goes on -/
theorem js_iff (hc : JT S ds c k) (h1 : k = true → JS S m B1 ds { D with nx := fun ds' => JS S m rest ds' D }) (h2 : k = false → JS S m B2 ds { D with nx := fun ds' => JS S m rest ds' D }) : JS S m (.If c B1 B2 pos :: rest) ds D :=
  js_if (M := fun ds' => JS S m rest ds' D) hc h1 h2 fun _ h => h
/-- if c: .., where c is false -/
theorem js_ifNo (hc : JT S ds c k) (hk : k = false) (h : JS S m rest ds D) : JS S m (.If c B1 [] pos :: rest) ds D := js_iff hc (fun z => by rw [hk] at z; cases z) fun _ => js_nil h
theorem js_forM {g : TG} {js : List Nat} {row : α → List PyData} (P : Nat → List Slot → Prop) (hw : JW S ds tg iter g js items row) (hg : ∀ X, S.Holds X → PG X tg g) (h0 : P 0 ds)
    (hs : ∀ (i : Nat) (a : α) ds', items[i]? = some a → P i ds' → JS S m body (setD ds' js (row a)) { nx := P (i + 1), ct := P (i + 1), bk := fun ds' => JS S m rest ds' D, rt := D.rt, xs := D.xs }) (hd : ∀ ds', P items.length ds' → JS S m rest ds' D)
    (hf : ∀ env x, foldedSetIterable iter env x = pure x := by intro _ _; rfl) : JS S m (.For tg iter body [] pos :: rest) ds D := js_for (M := fun ds' => JS S m rest ds' D) P hw hg h0 hs hd (fun _ h => h) hf
theorem jt_is (h : JT S ds e k) {l : Bool} (q : k = l) : JT S ds e l := q ▸ h
end
/-! ### what a def's arguments are bound to -/
theorem bind1 {x a : Str} {st : Stmt} (h : ∀ (kV doc pm : Value) (an : Option Addr) (cdv ct u : Value), bindArgs (PySem.W.fnOf x x (defArgs st) (defBody st) (defScope st) .none kV doc pm an cdv ct) ⟨[u], []⟩ = pure [(a, u)]) :
    ∀ (kV doc pm : Value) (an : Option Addr) (cdv ct : Value) (us : List Value), us.length = [a].length → bindArgs (PySem.W.fnOf x x (defArgs st) (defBody st) (defScope st) .none kV doc pm an cdv ct) ⟨us, []⟩ = pure ([a].zip us) := fun kV doc pm an cdv ct us hl => by
  match us, hl with
  | [u], _ => exact h kV doc pm an cdv ct u
theorem bind2 {x a b : Str} {st : Stmt} (h : ∀ (kV doc pm : Value) (an : Option Addr) (cdv ct u v : Value), bindArgs (PySem.W.fnOf x x (defArgs st) (defBody st) (defScope st) .none kV doc pm an cdv ct) ⟨[u, v], []⟩ = pure [(a, u), (b, v)]) :
    ∀ (kV doc pm : Value) (an : Option Addr) (cdv ct : Value) (us : List Value), us.length = [a, b].length → bindArgs (PySem.W.fnOf x x (defArgs st) (defBody st) (defScope st) .none kV doc pm an cdv ct) ⟨us, []⟩ = pure ([a, b].zip us) := fun kV doc pm an cdv ct us hl => by
  match us, hl with
  | [u, v], _ => exact h kV doc pm an cdv ct u v
theorem bind3 {x a b c : Str} {st : Stmt} (h : ∀ (kV doc pm : Value) (an : Option Addr) (cdv ct u v w : Value), bindArgs (PySem.W.fnOf x x (defArgs st) (defBody st) (defScope st) .none kV doc pm an cdv ct) ⟨[u, v, w], []⟩ = pure [(a, u), (b, v), (c, w)]) :
    ∀ (kV doc pm : Value) (an : Option Addr) (cdv ct : Value) (us : List Value), us.length = [a, b, c].length → bindArgs (PySem.W.fnOf x x (defArgs st) (defBody st) (defScope st) .none kV doc pm an cdv ct) ⟨us, []⟩ = pure ([a, b, c].zip us) := fun kV doc pm an cdv ct us hl => by
  match us, hl with
  | [u, v, w], _ => exact h kV doc pm an cdv ct u v w
theorem bind4 {x a b c e : Str} {st : Stmt} (h : ∀ (kV doc pm : Value) (an : Option Addr) (cdv ct u v w z : Value), bindArgs (PySem.W.fnOf x x (defArgs st) (defBody st) (defScope st) .none kV doc pm an cdv ct) ⟨[u, v, w, z], []⟩ = pure [(a, u), (b, v), (c, w), (e, z)]) :
    ∀ (kV doc pm : Value) (an : Option Addr) (cdv ct : Value) (us : List Value), us.length = [a, b, c, e].length → bindArgs (PySem.W.fnOf x x (defArgs st) (defBody st) (defScope st) .none kV doc pm an cdv ct) ⟨us, []⟩ = pure ([a, b, c, e].zip us) := fun kV doc pm an cdv ct us hl => by
  match us, hl with
  | [u, v, w, z], _ => exact h kV doc pm an cdv ct u v w z
/-- a def, standing, with its promise -/
def FnAt (P : Program) (w : World) (K : PySem.W.Frag) (mg : Str → Option Value) (base : Heap) (x : Str) (st : Stmt) (n : Nat) (ps : List Str) (sp : Sp) : Prop := ∃ f fd, FnP K x st f fd ∧ mg x = some (.ref f) ∧ FnOk P w K mg base CX0 n f fd ps sp
theorem fnat_pure {P : Program} {w : World} {K : PySem.W.Frag} {mg : Str → Option Value} {base : Heap} {x : Str} {st : Stmt} {N ps : List Str} {k : Nat} {fns : List (Str × Stmt)} {bls : List Str} {R : List PyData → PyData → Prop} (L : Lib K mg fns bls) (i : Nat) (hi : fns[i]? = some (x, st)) (Sc : FnScope N ps (defScope st))
    (hlen : ∀ args d, R args d → args.length = ps.length)
    (body : ∀ args d, R args d → ∀ fa, JS (scD P w K mg base N st k false fa) false (defBody st) (slots N.length (args.map .val)) { nx := fun _ => d = .none, rt := fun z => z = d }) : FnAt P w K mg base x st (k + 1) ps (spP R) := by
  obtain ⟨f, fd, F, hm⟩ := L.fn i x st hi
  exact ⟨f, fd, F, hm, fn_pure F Sc hlen body⟩
theorem FnAt.cal {P : Program} {w : World} {K : PySem.W.Frag} {mg : Str → Option Value} {base : Heap} {x : Str} {st : Stmt} {ps : List Str} {n : Nat} {sp : Sp} (A : FnAt P w K mg base x st n ps sp)
    (hb : ∀ (kV doc pm : Value) (an : Option Addr) (cdv ct : Value) (us : List Value), us.length = ps.length → bindArgs (PySem.W.fnOf x x (defArgs st) (defBody st) (defScope st) .none kV doc pm an cdv ct) ⟨us, []⟩ = pure (ps.zip us)) : Cal P w K mg base x n sp := by
  obtain ⟨f, fd, F, hm, ok⟩ := A
  exact cal_of F ok hm hb
/-- a def that may be called, by its proof: its body keeps R -/
theorem cal_pure {P : Program} {w : World} {K : PySem.W.Frag} {mg : Str → Option Value} {base : Heap} {x : Str} {st : Stmt} {N ps : List Str} {k : Nat} {fns : List (Str × Stmt)} {bls : List Str} {R : List PyData → PyData → Prop} (L : Lib K mg fns bls) (i : Nat) (hi : fns[i]? = some (x, st)) (Sc : FnScope N ps (defScope st))
    (hb : ∀ (kV doc pm : Value) (an : Option Addr) (cdv ct : Value) (us : List Value), us.length = ps.length → bindArgs (PySem.W.fnOf x x (defArgs st) (defBody st) (defScope st) .none kV doc pm an cdv ct) ⟨us, []⟩ = pure (ps.zip us))
    (hlen : ∀ args d, R args d → args.length = ps.length)
    (body : ∀ args d, R args d → ∀ fa, JS (scD P w K mg base N st k false fa) false (defBody st) (slots N.length (args.map .val)) { nx := fun _ => d = .none, rt := fun z => z = d }) : Cal P w K mg base x (k + 1) (spP R) := by
  obtain ⟨f, fd, F, hm⟩ := L.fn i x st hi
  exact cal_of F (fn_pure F Sc hlen body) hm hb
theorem cal_feed {P : Program} {w : World} {K : PySem.W.Frag} {mg : Str → Option Value} {base : Heap} {x : Str} {st : Stmt} {N ps : List Str} {k : Nat} {fns : List (Str × Stmt)} {bls : List Str} {R : List PyData → (PyData → Prop) → Prop} (L : Lib K mg fns bls) (i : Nat) (hi : fns[i]? = some (x, st)) (Sc : FnScope N ps (defScope st))
    (hb : ∀ (kV doc pm : Value) (an : Option Addr) (cdv ct : Value) (us : List Value), us.length = ps.length → bindArgs (PySem.W.fnOf x x (defArgs st) (defBody st) (defScope st) .none kV doc pm an cdv ct) ⟨us, []⟩ = pure (ps.zip us))
    (hlen : ∀ args Pd, R args Pd → args.length + 1 = ps.length)
    (body : ∀ args Pd, R args Pd → ∀ fa, JS (scD P w K mg base N st k false fa) true (defBody st) (slots N.length (.fd :: args.map .val)) { nx := fun _ => Pd .none, rt := Pd }) : Cal P w K mg base x (k + 1) (spF R) := by
  obtain ⟨f, fd, F, hm⟩ := L.fn i x st hi
  exact cal_of F (fn_feed F Sc hlen body) hm hb
theorem cal_pureG {P : Program} {w : World} {K : PySem.W.Frag} {mg : Str → Option Value} {base : Heap} {x : Str} {st : Stmt} {N ps : List Str} {k : Nat} {fns : List (Str × Stmt)} {bls : List Str} {R : List PyData → PyData → Prop} (L : Lib K mg fns bls) (i : Nat) (hi : fns[i]? = some (x, st)) (Sc : FnScope N ps (defScope st))
    (hb : ∀ (kV doc pm : Value) (an : Option Addr) (cdv ct : Value) (us : List Value), us.length = ps.length → bindArgs (PySem.W.fnOf x x (defArgs st) (defBody st) (defScope st) .none kV doc pm an cdv ct) ⟨us, []⟩ = pure (ps.zip us))
    (hlen : ∀ args d, R args d → args.length = ps.length)
    (body : ∀ args d, R args d → ∀ fa, JS (scD P w K mg base N st k true fa) false (defBody st) (slots N.length (args.map .val)) { nx := fun _ => d = .none, rt := fun z => z = d }) : CalG P w K mg base x (k + 1) (spP R) := by
  obtain ⟨f, fd, F, hm⟩ := L.fn i x st hi
  exact calG_of F (fn_pureG F Sc hlen body) hm hb
theorem cal_feedG {P : Program} {w : World} {K : PySem.W.Frag} {mg : Str → Option Value} {base : Heap} {x : Str} {st : Stmt} {N ps : List Str} {k : Nat} {fns : List (Str × Stmt)} {bls : List Str} {R : List PyData → (PyData → Prop) → Prop} (L : Lib K mg fns bls) (i : Nat) (hi : fns[i]? = some (x, st)) (Sc : FnScope N ps (defScope st))
    (hb : ∀ (kV doc pm : Value) (an : Option Addr) (cdv ct : Value) (us : List Value), us.length = ps.length → bindArgs (PySem.W.fnOf x x (defArgs st) (defBody st) (defScope st) .none kV doc pm an cdv ct) ⟨us, []⟩ = pure (ps.zip us))
    (hlen : ∀ args Pd, R args Pd → args.length + 1 = ps.length)
    (body : ∀ args Pd, R args Pd → ∀ fa, JS (scD P w K mg base N st k true fa) true (defBody st) (slots N.length (.fd :: args.map .val)) { nx := fun _ => Pd .none, rt := Pd }) : CalG P w K mg base x (k + 1) (spF R) := by
  obtain ⟨f, fd, F, hm⟩ := L.fn i x st hi
  exact calG_of F (fn_feedG F Sc hlen body) hm hb
end Sh


set_option Elab.async false
set_option linter.all false
set_option maxRecDepth 100000
set_option maxHeartbeats 40000000
set_option autoImplicit false
/-! J12: calls with defaults, calls by keywords -/
namespace Sh
open PySem PySem.Spec
      PyProof.Rows L2
/-- a def with defaults that may be called: dvs fill up -/
def CalD (P : Program) (w : World) (K : PySem.W.Frag) (mg : Str → Option Value) (base : Heap) (x : Str) (k : Nat) (sp : Sp) (dvs : List V) : Prop :=
  ∃ (f : Addr) (fd : FuncData) (ps : List Str) (ds : List Value), FnOk P w K mg base CX0 k f fd ps sp ∧ mg x = some (.ref f) ∧ PySem.W.keepIn K (.ref f) = true ∧ Binds K fd ps ds ∧ Vals dvs ds
/-- a def called by keywords ks; rr puts their values in the parameters' order -/
structure KwTo (K : PySem.W.Frag) (fd : FuncData) (ps ks : List Str) (rr : {α : Type} → List α → List α) : Prop where
  to : ∀ (s : Shared) (ws : List Value), K.In s.heap → ws.length = ks.length → BindsTo s fd ⟨[], ks.zip ws⟩ (ps.zip (rr ws))
  rel : ∀ {zs : List V} {ws : List Value}, Vals zs ws → Vals (rr zs) (rr ws)
  rp : ∀ {H : Hp} {zs : List V} {xs : List PyData}, RpAll H zs xs → RpAll H (rr zs) (rr xs)
theorem KwTo.kbn {K : PySem.W.Frag} {fd : FuncData} {ps ks : List Str} {rr : {α : Type} → List α → List α} (h : KwTo K fd ps ks rr) : KBn K fd ps 0 ks (fun _ ws => rr ws) (fun _ zs => rr zs) :=
  ⟨fun s us ws X l1 l2 => by rw [List.length_eq_zero_iff.mp l1]; exact h.to s ws X l2, fun _ r2 => h.rel r2⟩
def CalK (P : Program) (w : World) (K : PySem.W.Frag) (mg : Str → Option Value) (base : Heap) (x : Str) (k : Nat) (CX : CXT) (sp : Sp) (ks : List Str) (rr : {α : Type} → List α → List α) : Prop :=
  ∃ (f : Addr) (fd : FuncData) (ps : List Str), FnOk P w K mg base CX k f fd ps sp ∧ mg x = some (.ref f) ∧ PySem.W.keepIn K (.ref f) = true ∧ KwTo K fd ps ks rr
section
variable {S : SC} {ds : List Slot} {a b c e : Expr} {es : List Expr} {x y z d : PyData} {xs ys : List PyData} {pos p : Pos}
theorem je_callD {x : Str} {n : Nat} {R : List PyData → PyData → Prop} {dvs : List V} (C : CalD S.prog S.w S.K S.mg S.base x n (spP R) dvs) (hn : n ≤ S.k) (ha : JA S ds (e :: es) xs) (hd : ∀ H, RpAll H dvs ys) (hR : R (xs ++ ys) d)
    (hg : S.scope.names.lookup x = some .globalImplicit := by rfl) (hdb : (x == ("__debug__" : Str)) = false := by decide)
    (he : ∀ env, starEach (e :: es) env = (false, eval e env) :: starEach es env := by intro _; rfl) (hpl : ∀ env, (backTo pos (starEach es env)).any (·.1) = false := by intro _; rfl) : JE S ds (.Call (.Name x p) (e :: es) [] pos) d := by
  intro O σ H st Q k
  refine te_mk (t := tCall (spP R) dvs E0 (taOf S (e :: es))) (fun X h => ?_) ?_
  · obtain ⟨f, fd, ps, dd, F, hm, hk, hb, hv⟩ := C
    rw [← h.prog, ← h.w, ← h.K, ← h.mg, ← h.base] at F
    exact pe_call F (h.room.mono hn) (gl_of h hg) (h.mg ▸ hm) (h.K ▸ hk) (h.K ▸ hb) hv pass0 (pa_taOf h) hdb (he _) (hpl _)
  · refine ha O σ H st _ fun vs H1 e1 r1 => ?_
    exact ⟨O, xs ++ ys, d, dom_mono st.dom e1, r1.append (hd _), hR, fun v H2 e2 r2 => k v H2 (e1.trans e2) r2⟩
/-- keywords' values by data -/
def tkOf (S : SC) (kws : List Keyword) : TA := fun σ H Q => ∃ t : TA, (∀ X, S.Holds X → PK X kws t) ∧ t σ H Q
theorem pk_tkOf {X : Cx} {kws : List Keyword} (h : S.Holds X) : PK X kws (tkOf S kws) := ⟨fun pos pins s σ H Q I ⟨_, ht, hq⟩ => (ht X h).run pos pins s σ H Q I hq⟩
def JK (S : SC) (ds : List Slot) (kws : List Keyword) (xs : List PyData) : Prop :=
  ∀ (O : List Addr) (σ : L2.St) (H : Hp), StOk S.fa O H σ ds → ∀ Q : List V → Hp → Prop, (∀ vs H', Same H H' → RpAll (hide O H') vs xs → Q vs H') → tkOf S kws σ H Q
theorem jk_nil : JK S ds [] [] := fun O σ H st Q k => ⟨tNil, fun X h => pk_nil, k [] H (Same.refl H) .nil⟩
theorem jk_cons {nm : Option Str} {kp : Pos} {kws : List Keyword} (ha : JE S ds e x) (hr : JK S ds kws xs) : JK S ds (⟨nm, e, kp⟩ :: kws) (x :: xs) := by
  intro O σ H st Q k
  refine ⟨tCons (teOf S e) (tkOf S kws), fun X h => pk_cons (pe_teOf h) (pk_tkOf h), ?_⟩
  refine ha O σ H st _ fun v H1 e1 r1 => hr O σ H1 (st.mono e1) _ fun vs H2 e2 r2 => ?_
  exact k _ H2 (e1.trans e2) (.cons (r1.mono (hide_same e2)) r2)
theorem pe_kw {X : Cx} {x : Str} {n : Nat} {CX : CXT} {sp : Sp} {E : XK} {ks : List Str} {rr : {α : Type} → List α → List α} {kws : List Keyword} {tk : TA} (h : S.Holds X) (C : CalK S.prog S.w S.K S.mg S.base x n CX sp ks rr) (hx : Passes CX X E) (hn : n ≤ S.k) (hg : S.scope.names.lookup x = some .globalImplicit) (hkw : PK X kws tk)
    (hall : (backToKw pos (keywordEach kws X.env)).all (·.1.isSome) = true) (hks : (backToKw pos (keywordEach kws X.env)).filterMap (·.1) = ks) (hdb : (x == ("__debug__" : Str)) = false)
    (hpl : ((backTo pos (starEach [] X.env)).any (·.1) || (backToKw pos (keywordEach kws X.env)).any (·.1.isNone)) = false) :
    PE X (.Call (.Name x p) [] kws pos) (tCallN 0 ks.length sp (fun _ zs => rr zs) E tNil tk) := by
  obtain ⟨f, fd, ps, F, hm, hk, hb⟩ := C
  rw [← h.prog, ← h.w, ← h.K, ← h.mg, ← h.base] at F
  have hb' := h.K ▸ hb
  refine ⟨fun pins s σ H Q I hq => wpAny_Call_Name_kw (ld_glob I (gl_of h hg) (h.mg ▸ hm) ?_ hdb)⟩
  refine PySem.W.callWith_KW0 (h₀ := X.base) I.ok.mod.kin (h.K ▸ hk) hall ?_ hpl
  refine thn (hkw.run pos pins s σ H _ I hq) fun ws s2 ⟨zs, H2, I2, rz, l1, l2, q2⟩ => ⟨I2.kIn, ?_⟩
  rw [hks]
  exact run_fnN (us := []) (vs := []) (g := fun _ ws => rr ws) (gV := fun _ zs => rr zs) F (h.room.mono hn) hb'.kbn hx I2 .nil rz rfl l2 q2
theorem je_kw {x : Str} {n : Nat} {R : List PyData → PyData → Prop} {ks : List Str} {rr : {α : Type} → List α → List α} {kws : List Keyword} (C : CalK S.prog S.w S.K S.mg S.base x n CX0 (spP R) ks rr) (hrp : ∀ {H : Hp} {zs : List V} {xs : List PyData}, RpAll H zs xs → RpAll H (rr zs) (rr xs)) (hn : n ≤ S.k) (ha : JK S ds kws xs) (hlen : xs.length = ks.length) (hR : R (rr xs) d)
    (hg : S.scope.names.lookup x = some .globalImplicit := by rfl) (hdb : (x == ("__debug__" : Str)) = false := by decide)
    (hall : ∀ env, (backToKw pos (keywordEach kws env)).all (·.1.isSome) = true := by intro _; rfl) (hks : ∀ env, (backToKw pos (keywordEach kws env)).filterMap (·.1) = ks := by intro _; rfl)
    (hpl : ∀ env, ((backTo pos (starEach [] env)).any (·.1) || (backToKw pos (keywordEach kws env)).any (·.1.isNone)) = false := by intro _; rfl) : JE S ds (.Call (.Name x p) [] kws pos) d := by
  intro O σ H st Q k
  refine te_mk (t := tCallN 0 ks.length (spP R) (fun _ zs => rr zs) E0 tNil (tkOf S kws)) (fun X h => pe_kw h C pass0 hn hg (pk_tkOf h) (hall _) (hks _) hdb (hpl _)) ?_
  refine ha O σ H st _ fun vs H1 e1 r1 => ⟨rfl, by rw [r1.len, hlen], ?_⟩
  exact ⟨O, rr xs, d, dom_mono st.dom e1, hrp r1, hR, fun v H2 e2 r2 => k v H2 (e1.trans e2) r2⟩
end
/-! ### one keyword; two of them, turned round -/
abbrev rr1 {α : Type} (l : List α) : List α := l
abbrev rr2 {α : Type} (l : List α) : List α := l.reverse
theorem vals_rev {zs : List V} {ws : List Value} (h : Vals zs ws) : Vals zs.reverse ws.reverse := by
  induction h with
  | nil => exact .nil
  | cons r rs ih =>
    rw [List.reverse_cons,
          List.reverse_cons]
    exact ih.append (.cons r .nil)
section
variable {P : Program} {w : World} {K : PySem.W.Frag} {mg : Str → Option Value} {base : Heap} {x : Str} {st : Stmt} {ps : List Str} {n : Nat} {CX : CXT} {sp : Sp} {f : Addr} {fd : FuncData}
theorem calK1 {a : Str} (F : FnP K x st f fd) (ok : FnOk P w K mg base CX n f fd [a] sp) (hm : mg x = some (.ref f))
    (hb : ∀ (kV doc pm : Value) (an : Option Addr) (cdv ct u : Value), bindArgs (PySem.W.fnOf x x (defArgs st) (defBody st) (defScope st) .none kV doc pm an cdv ct) ⟨[], [(a, u)]⟩ = pure [(a, u)]) : CalK P w K mg base x n CX sp [a] rr1 := by
  refine ⟨f, fd, [a], ok, hm, F.kp, ⟨fun s ws X hl => ?_, fun h => h, fun h => h⟩⟩
  obtain ⟨oc, od, dV, kV, doc, pm, an, cdv,
        ct, osl, rfl, lk, hcd, hD, hK⟩ := F.ex
  rcases hD with
        ⟨_, rfl⟩ | ⟨e, _⟩
  · match ws, hl with
    | [u], _ => exact .of_eq (hb kV doc pm an cdv ct u)
  · exact absurd rfl e
theorem calK2 {a b : Str} (F : FnP K x st f fd) (ok : FnOk P w K mg base CX n f fd [a, b] sp) (hm : mg x = some (.ref f))
    (hb : ∀ (kV doc pm : Value) (an : Option Addr) (cdv ct u v : Value), bindArgs (PySem.W.fnOf x x (defArgs st) (defBody st) (defScope st) .none kV doc pm an cdv ct) ⟨[], [(b, u), (a, v)]⟩ = pure [(a, v), (b, u)]) : CalK P w K mg base x n CX sp [b, a] rr2 := by
  refine ⟨f, fd, [a, b], ok, hm, F.kp, ⟨fun s ws X hl => ?_, fun h => vals_rev h, fun h => h.reverse⟩⟩
  obtain ⟨oc, od, dV, kV, doc, pm, an, cdv,
        ct, osl, rfl, lk, hcd, hD, hK⟩ := F.ex
  rcases hD with
        ⟨_, rfl⟩ | ⟨e, _⟩
  · match ws, hl with
    | [u, v], _ => exact .of_eq (hb kV doc pm an cdv ct u v)
  · exact absurd rfl e
end
end Sh


set_option Elab.async false
set_option linter.all false
set_option maxRecDepth 100000
set_option maxHeartbeats 40000000
set_option autoImplicit false
/-! J13: zip of a tuple and a list, list(zip(..)) -/
namespace Sh
open PySem PySem.Spec
      PyProof.Rows L2
section
variable {prog : Program} {w : World} {A : Around} {E : Value → Shared → Prop} {s : Shared} {z TI TO i1 i2 T : Addr} {fp1 fp2 : List Addr} {n1 n2 i : Nat} {P1 P2 : Nat → Value → Prop} {St1 St2 : Nat → Heap → Prop} {fl : Value}
/-- a zip whose pair is out: T holds it -/
abbrev ZipO (h : Heap) (z TI TO T : Addr) (fl : Value) : Prop := h.get? z = some { cls := .type "zip", data := .fields #[rawInt T, fl, .bool false, .ref TI, .ref TO] }
theorem zipO_free {Q : Bool → Shared → Prop} {oT : Obj} (hz : ZipO s.heap z TI TO T fl) (hfl : fl = .bool false ∨ fl = .bool true) (hT : s.heap.get? T = some oT)
    (hQ : ∀ h', ZipO h' z TI TO T (.bool true) → Heap.SameBut z s.heap h' → Q false { s with heap := h' }) : wpAny (model prog w) A (Builtin.SmallTypes.ownedTupleIsFree (.ref z)) Q E s := by
  unfold
        Builtin.SmallTypes.ownedTupleIsFree
  refine wpAny_bind (wpAny_field
        hz rfl (x := rawInt T) rfl ?_)
  show wpAny _ _ (loadIfAlive
        ((T : Int).toNat) >>= _) _ _ _
  rw [Int.toNat_natCast]
  refine wpAny_bind (PySem.W.kdx_alive hT ?_)
  simp only [Option.isNone_some,
        Bool.false_eq_true, if_false]
  rcases hfl with rfl | rfl
  · refine wpAny_bind (wpAny_field hz rfl (x := .bool false) rfl ?_)
    rw [if_pos (show (Value.bool false != Value.bool true) = true by decide)]
    exact wpAny_bind (wpAny_setField_rec hz (by simp) fun h' hz' hs => wpAny_pure (hQ h' hz' hs))
  · refine wpAny_bind (wpAny_field hz rfl (x := .bool true) rfl ?_)
    rw [if_neg (show ¬ (Value.bool true != Value.bool true) = true by decide)]
    exact wpAny_pure (hQ s.heap hz ⟨rfl, fun _ _ => rfl⟩)
theorem zipO_item {Q : Value → Shared → Prop} {oT : Obj} (S : ZipSep2 z TI TO i1 i2 fp1 fp2) (D1 : Draws prog w A i1 fp1 n1 P1 St1) (D2 : Draws prog w A i2 fp2 n2 P2 St2)
    (hz : ZipO s.heap z TI TO T fl) (hfl : fl = .bool false ∨ fl = .bool true) (hT : s.heap.get? T = some oT) (hTI : IsTupOf2 s.heap TI (.ref i1) (.ref i2)) (st1 : St1 i s.heap) (st2 : St2 i s.heap) (hlt1 : i < n1) (hlt2 : i < n2)
    (hQ : ∀ x1 x2 h' tk, P1 i x1 → P2 i x2 → ZipO h' z TI TO T (.bool true) → St1 (i + 1) h' → St2 (i + 1) h' → IsTupOf2 h' s.heap.objs.size x1 x2 → h'.objs.size = s.heap.objs.size + 1 →
      (∀ c o, c ≠ z → c ≠ i1 → c ≠ i2 → s.heap.get? c = some o → h'.get? c = some o) → Q (.ref s.heap.objs.size) { s with heap := h', toks := tk }) :
    wpAny (model prog w) A (Builtin.«zip.__next__» ⟨[.ref z], []⟩)
          (fun fin s' => ∃ v, fin = .done (.ret v) ∧ Q v s') E s := by
  obtain ⟨hp, g,
        d, tk0, os⟩ := s
  show wpAny _ _ (field
        (.ref z) 2 >>= _) _ _ _
  refine wpAny_bind (wpAny_field hz
        rfl (x := .bool false) rfl ?_)
  show wpAny _ _ (field
        (.ref z) 3 >>= _) _ _ _
  refine wpAny_bind (wpAny_field
        hz rfl (x := .ref TI) rfl ?_)
  refine wpAny_bind
        (wpAny_seqItems hTI rfl ?_)
  show wpAny _ _ (Builtin.SmallTypes.ownedTupleIsFree
        (.ref z) >>= _) _ _ _
  refine wpAny_bind (zipO_free hz hfl hT fun g0 hz0 hs0 => ?_)
  replace hz0 : ZipO g0 z TI TO T (.bool true) := hz0
  replace hs0 : Heap.SameBut
        z hp g0 := hs0
  simp only [Bool.false_eq_true,
        if_false]
  refine wpAny_bind ?_
  rw [← Array.forIn_toList]
  simp only [List.forIn_cons,
        List.forIn_nil]
  refine wpAny_bind (wpAny_bind
        (wpAny_holding ?_))
  show wpAny _ _ (Builtin.SmallTypes.nextOf (.ref i1) >>= fun x => pure (some x)) _ _ ⟨g0, g, d, tk0, os⟩
  refine wpAny_bind (D1.item i _ _ _ hlt1 (D1.over st1 hs0 S.zf1) fun x1 p1 tk1 hx1 sn1 hp1 => wpAny_pure (wpAny_pure ?_))
  replace hp1 : Heap.SameBut
        i1 g0 p1 := hp1
  refine wpAny_bind (wpAny_bind
        (wpAny_holding ?_))
  show wpAny _ _ (Builtin.SmallTypes.nextOf (.ref i2) >>= fun x => pure (some x)) _ _ ⟨p1, g, d, tk1, os⟩
  refine wpAny_bind (D2.item i _ _ _ hlt2 (D2.over (D2.over st2 hs0 S.zf2) hp1 S.sep1_2) fun x2 p2 tk2 hx2 sn2 hp2 => wpAny_pure (wpAny_pure (wpAny_pure ?_)))
  replace hp2 : Heap.SameBut i2 p1 p2 := hp2
  show wpAny _ _ (newTuple [x1, x2] >>= fun r => ret r) _ _ ⟨p2, g, d, tk2, os⟩
  have hsz : p2.objs.size = hp.objs.size := by rw [hp2.1, hp1.1, hs0.1]
  refine wpAny_bind (wpAny_newTuple (wpAny_pure ⟨_, rfl, ?_⟩))
  have hz2 : ZipO p2 z TI TO T (.bool true) := hp2.extBut _ _ S.zi2 (hp1.extBut _ _ S.zi1 hz0)
  have up : ∀ c o, p2.get? c = some o → (p2.push { cls := .type "tuple", data := .seq #[x1, x2] }).get? c = some o := fun c o e => Heap.get?_push_of_some _ e
  have kk : ∀ c o, c ≠ z → c ≠ i1 → c ≠ i2 → hp.get? c = some o → p2.get? c = some o := fun c o cz c1 c2 e => hp2.extBut _ _ c2 (hp1.extBut _ _ c1 (hs0.extBut _ _ cz e))
  show Q (.ref p2.objs.size) ⟨p2.push { cls := .type "tuple", data := .seq #[x1, x2] }, g, d, tk2, os⟩
  rw [hsz]
  refine hQ x1 x2 _ tk2 hx1 hx2 (up _ _ hz2) (D1.frame _ _ _ (D1.over sn1 hp2 S.sep2_1) fun b _ o e => up b o e) (D2.frame _ _ _ sn2 fun b _ o e => up b o e) ?_ (by rw [Heap.size_push, hsz]) fun c o cz c1 c2 e => up c o (kk c o cz c1 c2 e)
  show _ = _
  rw [← hsz]
  exact
        Heap.get?_push_size _ rfl
theorem zipO_end {Q : Fin → Shared → Prop} {oT : Obj} (S : ZipSep2 z TI TO i1 i2 fp1 fp2) (D1 : Draws prog w A i1 fp1 n1 P1 St1) (D2 : Draws prog w A i2 fp2 n2 P2 St2)
    (hz : ZipO s.heap z TI TO T fl) (hfl : fl = .bool false ∨ fl = .bool true) (hT : s.heap.get? T = some oT) (hTI : IsTupOf2 s.heap TI (.ref i1) (.ref i2)) (st1 : St1 i s.heap) (st2 : St2 i s.heap) (hle1 : i ≤ n1) (hle2 : i ≤ n2) (hend : i = n1 ∨ i = n2)
    (hE : ∀ h' tk e, (∀ c o, c ≠ z → c ≠ i1 → c ≠ i2 → s.heap.get? c = some o → h'.get? c = some o) → (∃ o, h'.get? e = some o ∧ o.cls = .type "StopIteration") → E (.ref e) { s with heap := h', toks := tk }) :
    wpAny (model prog w) A (Builtin.«zip.__next__»
          ⟨[.ref z], []⟩) Q E s := by
  obtain ⟨hp, g,
        d, tk0, os⟩ := s
  show wpAny _ _ (field
        (.ref z) 2 >>= _) _ _ _
  refine wpAny_bind (wpAny_field hz
        rfl (x := .bool false) rfl ?_)
  show wpAny _ _ (field
        (.ref z) 3 >>= _) _ _ _
  refine wpAny_bind (wpAny_field
        hz rfl (x := .ref TI) rfl ?_)
  refine wpAny_bind
        (wpAny_seqItems hTI rfl ?_)
  show wpAny _ _ (Builtin.SmallTypes.ownedTupleIsFree
        (.ref z) >>= _) _ _ _
  refine wpAny_bind (zipO_free hz hfl hT fun g0 hz0 hs0 => ?_)
  replace hz0 : ZipO g0 z TI TO T (.bool true) := hz0
  replace hs0 : Heap.SameBut
        z hp g0 := hs0
  simp only [Bool.false_eq_true,
        if_false]
  refine wpAny_bind ?_
  rw [← Array.forIn_toList]
  simp only [List.forIn_cons,
        List.forIn_nil]
  refine wpAny_bind (wpAny_bind
        (wpAny_holding ?_))
  show wpAny _ _ (Builtin.SmallTypes.nextOf (.ref i1) >>= fun x => pure (some x)) _ _ ⟨g0, g, d, tk0, os⟩
  by_cases hlt1 : i < n1
  · refine wpAny_bind (D1.item i _ _ _ hlt1 (D1.over st1 hs0 S.zf1) fun x1 p1 tk1 hx1 sn1 hp1 => wpAny_pure (wpAny_pure ?_))
    replace hp1 : Heap.SameBut
          i1 g0 p1 := hp1
    refine wpAny_bind (wpAny_bind
          (wpAny_holding ?_))
    show wpAny _ _ (Builtin.SmallTypes.nextOf (.ref i2) >>= fun x => pure (some x)) _ _ ⟨p1, g, d, tk1, os⟩
    have hi2 : i = n2 := by omega
    refine wpAny_bind (D2.done ⟨p1, g, d, tk1, os⟩ _ _ (by rw [← hi2]; exact D2.over (D2.over st2 hs0 S.zf2) hp1 S.sep1_2) fun q e hq he => ?_)
    replace hq : Heap.ExtBut i2 p1 q := hq
    exact hE q tk1 e (fun c o cz c1 c2 x => hq _ _ c2 (hp1.extBut _ _ c1 (hs0.extBut _ _ cz x))) he
  · have hi1 : i
          = n1 := by omega
    refine wpAny_bind (D1.done ⟨g0, g, d, tk0, os⟩ _ _ (by rw [← hi1]; exact D1.over st1 hs0 S.zf1) fun q e hq he => ?_)
    replace hq : Heap.ExtBut
          i1 g0 q := hq
    exact hE q tk0 e (fun c o cz c1 c2 x => hq _ _ c1 (hs0.extBut _ _ cz x)) he
theorem pyNextO_item {Q : Option Value → Shared → Prop} {oT : Obj} (S : ZipSep2 z TI TO i1 i2 fp1 fp2) (D1 : Draws prog w A.in1 i1 fp1 n1 P1 St1) (D2 : Draws prog w A.in1 i2 fp2 n2 P2 St2)
    (hz : ZipO s.heap z TI TO T fl) (hfl : fl = .bool false ∨ fl = .bool true) (hT : s.heap.get? T = some oT) (hTI : IsTupOf2 s.heap TI (.ref i1) (.ref i2)) (st1 : St1 i s.heap) (st2 : St2 i s.heap) (hlt1 : i < n1) (hlt2 : i < n2)
    (hQ : ∀ x1 x2 h' tk, P1 i x1 → P2 i x2 → ZipO h' z TI TO T (.bool true) → St1 (i + 1) h' → St2 (i + 1) h' → IsTupOf2 h' s.heap.objs.size x1 x2 → h'.objs.size = s.heap.objs.size + 1 →
      (∀ c o, c ≠ z → c ≠ i1 → c ≠ i2 → s.heap.get? c = some o → h'.get? c = some o) → Q (some (.ref s.heap.objs.size)) { s with heap := h', toks := tk }) : wpAny (model prog w) A (pyNext (.ref z)) Q E s := by
  have ty : s.TypeIs (.ref z) "zip" := ⟨_, hz, rfl⟩
  unfold pyNext
  exact wpAny_bind (wpAny_attempt (wpAny_callSpecial?_slot (name := Str.ofString "__next__") ty F.slot_zip_next
    (wpAny_call_entry F.slot_zip_next ty F.entry_zip_next (zipO_item S D1 D2 hz hfl hT hTI st1 st2 hlt1 hlt2 fun x1 x2 h' tk a b c e f i j k => wpAny_pure (hQ x1 x2 h' tk a b c e f i j k)) (F.args_zip_next_1 _))))
theorem pyNextO_end {Q : Option Value → Shared → Prop} {oT : Obj} (S : ZipSep2 z TI TO i1 i2 fp1 fp2) (D1 : Draws prog w A.in1 i1 fp1 n1 P1 St1) (D2 : Draws prog w A.in1 i2 fp2 n2 P2 St2)
    (hz : ZipO s.heap z TI TO T fl) (hfl : fl = .bool false ∨ fl = .bool true) (hT : s.heap.get? T = some oT) (hTI : IsTupOf2 s.heap TI (.ref i1) (.ref i2)) (st1 : St1 i s.heap) (st2 : St2 i s.heap) (hle1 : i ≤ n1) (hle2 : i ≤ n2) (hend : i = n1 ∨ i = n2)
    (hQ : ∀ h' tk, (∀ c o, c ≠ z → c ≠ i1 → c ≠ i2 → s.heap.get? c = some o → h'.get? c = some o) → Q none { s with heap := h', toks := tk }) : wpAny (model prog w) A (pyNext (.ref z)) Q E s := by
  have ty : s.TypeIs (.ref z) "zip" := ⟨_, hz, rfl⟩
  unfold pyNext
  refine wpAny_bind (wpAny_attempt (wpAny_callSpecial?_slot (name := Str.ofString "__next__") ty F.slot_zip_next
    (wpAny_call_entry F.slot_zip_next ty F.entry_zip_next (zipO_end S D1 D2 hz hfl hT hTI st1 st2 hle1 hle2 hend fun h' tk e hk he => ?_) (F.args_zip_next_1 _))))
  obtain ⟨o, ho, hc⟩ := he
  refine wpAny_bind (wpAny_isInstance (T := "StopIteration")
        (b := true) ⟨o, ho, hc⟩ isSubtype_stop ?_)
  exact wpAny_pure (hQ _ _ hk)
end

/-! ### list(zip(..)) -/
theorem zip_no_len : typeLookup (.type "zip") "__len__" = pure none := by rw [typeLookup_type, builtinLookup_eq_fast]; kernel_rfl
theorem zip_no_hint : typeLookup (.type "zip") "__length_hint__" = pure none := by rw [typeLookup_type, builtinLookup_eq_fast]; kernel_rfl
section
variable {prog : Program} {w : World} {A : Around} {s : Shared} {z TI TO i1 i2 L N : Addr} {fp1 fp2 : List Addr} {n1 n2 : Nat} {P1 P2 : Nat → Value → Prop} {St1 St2 : Nat → Heap → Prop} {R : Result → Shared → Prop}
def cOf (o : Obj) : Nat := match o.data with
  | .seq _ n => n
  | _ => 0
/-- after j turns: the pairs made stand at Ts; h0 is what stood ahead -/
structure ZL (h0 : Heap) (z TI TO i1 i2 L N : Addr) (P1 P2 : Nat → Value → Prop) (St1 St2 : Nat → Heap → Prop) (j : Nat) (Ts : List Addr) (h : Heap) : Prop where
  zs : (j = 0 ∧ IsZip h z TI TO .none ∧ ∃ a b, IsTupOf2 h TO a b) ∨ ∃ T o fl, ZipO h z TI TO T fl ∧ (fl = .bool false ∨ fl = .bool true) ∧ h.get? T = some o ∧ N ≤ T
  ti : IsTupOf2 h TI (.ref i1) (.ref i2)
  s1 : St1 j h
  s2 : St2 j h
  len : Ts.length = j
  inc : Ts.Pairwise (· < ·)
  bd : ∀ T ∈ Ts, N ≤ T ∧ T < h.objs.size
  it : ∀ (k : Nat) (T : Addr), Ts[k]? = some T → ∃ x y, h.get? T = some { cls := .type "tuple", data := .seq #[x, y] } ∧ P1 k x ∧ P2 k y
  keep : ∀ c o, c ≠ z → c ≠ TO → c ≠ i1 → c ≠ i2 → c ≠ L → h0.get? c = some o → h.get? c = some o
  nb : N ≤ h.objs.size
theorem zip_list_loop (S : ZipSep2 z TI TO i1 i2 fp1 fp2) (D1 : Draws prog w A.in1.in1.in1 i1 fp1 n1 P1 St1) (D2 : Draws prog w A.in1.in1.in1 i2 fp2 n2 P2 St2) (h0 : Heap) (hL : L ∉ fp1 ∧ L ∉ fp2 ∧ L ≠ z ∧ L ≠ TI ∧ L ≠ TO)
    (hN : z < N ∧ TI < N ∧ TO < N ∧ i1 < N ∧ i2 < N ∧ L < N) (hn : min n1 n2 ≤ 1000000) (res : Value) :
    ∀ (k j : Nat) (s : Shared) (Ts : List Addr) (c : Nat), min n1 n2 - j = k → j ≤ min n1 n2 → ZL h0 z TI TO i1 i2 L N P1 P2 St1 St2 j Ts s.heap → s.heap.get? L = some { cls := .type "list", dict := none, data := .seq (Ts.map Value.ref).toArray c, slots := #[] } →
    (∀ h' tk Ts' c', ZL h0 z TI TO i1 i2 L N P1 P2 St1 St2 (min n1 n2) Ts' h' ∨ (∃ h2, ZL h0 z TI TO i1 i2 L N P1 P2 St1 St2 (min n1 n2) Ts' h2 ∧ ∀ c o, c ≠ z → c ≠ TO → c ≠ i1 → c ≠ i2 → h2.get? c = some o → h'.get? c = some o) → h'.get? L = some { cls := .type "list", dict := none, data := .seq (Ts'.map Value.ref).toArray c', slots := #[] } →
      R (.ok (.ret res)) { s with heap := h', toks := tk }) →
    codeAny (model prog w) A.in1 (.builtin "list.extend.loop" ⟨[.ref L, .ref z, res], []⟩) R s := by
  obtain ⟨L1, L2, L3, L4, L5⟩ := hL
  obtain ⟨N1, N2, N3, N4, N5, N6⟩ := hN
  have Li1 : L ≠ i1 := fun e => L1 (e ▸ S.mem1)
  have Li2 : L ≠ i2 := fun e => L2 (e ▸ S.mem2)
  intro k
  induction k with
  | zero =>
    intro j s Ts c hk hj Z hLo hR
    have hjn : j = min n1 n2 := by omega
    refine codeAny_builtin
          F.entry_extend_loop ?_
    rw [Around.under_plainId
          F.plain_extend_loop _]
    show wpAny _ A.in1.in1 (pyNext (.ref z) >>= _) _ _ s
    have fin : ∀ h' tk, (∀ c o, c ≠ z → c ≠ TO → c ≠ i1 → c ≠ i2 → s.heap.get? c = some o → h'.get? c = some o) → wpAny (model prog w) A.in1.in1 (match (none : Option Value) with | none => ret res | some x => do Builtin.List.listUpdate (.ref L) (·.push x); again (.builtin "list.extend.loop" ⟨[.ref L, .ref z, res], []⟩))
        (fun fin s' => match fin with | .done f => R (.ok f) s' | .again c' => c'.quiet = true ∧ codeAny (model prog w) A.in1 c' R s') (fun e s' => R (.error e) s') { s with heap := h', toks := tk } := fun h' tk hk => by
      have Z' := Z
      rw [hjn] at Z'
      exact wpAny_pure (hR h' tk Ts c (.inr ⟨s.heap, Z', hk⟩) (hk _ _ L3 L5 Li1 Li2 hLo))
    rcases Z.zs with ⟨_, hz, a, b, hTO⟩ | ⟨T, o, fl, hz, hfl, hT, _⟩
    · exact wpAny_bind (wpAny_pyNext_zipD2_end S D1 D2 hz Z.ti hTO Z.s1 Z.s2 (by omega) (by omega) (by omega) fun h' tk hk => fin h' tk hk)
    · exact wpAny_bind (pyNextO_end S D1 D2 hz hfl hT Z.ti Z.s1 Z.s2 (by omega) (by omega) (by omega) fun h' tk hk => fin h' tk fun c o a _ b d e => hk c o a b d e)
  | succ k ih =>
    intro j s Ts c hk hj Z hLo hR
    have hlt : j < min n1 n2 := by omega
    refine codeAny_builtin
          F.entry_extend_loop ?_
    rw [Around.under_plainId
          F.plain_extend_loop _]
    show wpAny _ A.in1.in1 (pyNext (.ref z) >>= _) _ _ s
    have go : ∀ (x1 x2 : Value) (h' : Heap) (tk : Nat) (T : Addr) (o : Obj) (fl : Value), T = s.heap.objs.size ∨ (N ≤ T ∧ h'.get? T = some o) → P1 j x1 → P2 j x2 → ZipO h' z TI TO T fl → (fl = .bool false ∨ fl = .bool true) → St1 (j + 1) h' → St2 (j + 1) h' → IsTupOf2 h' s.heap.objs.size x1 x2 → h'.objs.size = s.heap.objs.size + 1 →
        (∀ c o, c ≠ z → c ≠ TO → c ≠ i1 → c ≠ i2 → s.heap.get? c = some o → h'.get? c = some o) → wpAny (model prog w) A.in1.in1 (match (some (Value.ref s.heap.objs.size) : Option Value) with | none => ret res | some x => do Builtin.List.listUpdate (.ref L) (·.push x); again (.builtin "list.extend.loop" ⟨[.ref L, .ref z, res], []⟩))
        (fun fin s' => match fin with | .done f => R (.ok f) s' | .again c' => c'.quiet = true ∧ codeAny (model prog w) A.in1 c' R s') (fun e s' => R (.error e) s') { s with heap := h', toks := tk } := by
      intro x1 x2 h' tk T o fl hT hx1 hx2 hz hfl st1 st2 hT2 hsz hkk
      have hL' := hkk _ _ L3 L5 Li1 Li2 hLo
      have nN : s.heap.objs.size ≠ L := fun e => by have := Z.nb; rw [e] at this; exact absurd (Nat.lt_of_lt_of_le N6 this) (Nat.lt_irrefl _)
      have oth : ∀ b o, b ≠ L → h'.get? b = some o → (h'.update L (Obj.mapSeq (·.push (Value.ref s.heap.objs.size)))).get? b = some o := fun b o hb e => (Heap.get?_update_other _ _ (Ne.symm hb)).trans e
      show wpAny _ A.in1.in1 (updateSeq L (·.push (Value.ref s.heap.objs.size)) >>= _) _ _ _
      refine wpAny_bind ?_
      have hlen : (Ts.map Value.ref).toArray.size ≤ 1000000 := by rw [List.size_toArray, List.length_map, Z.len]; omega
      have bigL := sizeLine_eq
      refine wpAny_updateSeq hL' rfl (wpAny_pure ⟨plainId_quiet F.plain_extend_loop _, ?_⟩) (by omega) (by show ((Ts.map Value.ref).toArray.push _).size ≤ sizeLine + 1; rw [Array.size_push]; omega)
      have hself := Heap.get?_update_self (Obj.mapSeq (·.push (Value.ref s.heap.objs.size))) hL' rfl
      refine ih (j + 1) _ (Ts ++ [s.heap.objs.size]) (cOf (Obj.mapSeq (·.push (Value.ref s.heap.objs.size)) { cls := .type "list", dict := none, data := .seq (Ts.map Value.ref).toArray c, slots := #[] })) (by omega) hlt ⟨.inr ?_, ?_, ?_, ?_, by rw [List.length_append, Z.len]; rfl, ?_, ?_, fun k' T' hk' => ?_, fun c o a b d e f g => oth _ _ f (hkk _ _ a b d e (Z.keep c o a b d e f g)), ?_⟩ ?_ (fun h'' tk'' Ts' c' q1 q2 => hR h'' tk'' Ts' c' q1 q2)
      · rcases hT with e | ⟨a, b⟩
        · exact ⟨T, _, fl, oth _ _ (Ne.symm L3) hz, hfl, by rw [e]; exact oth _ _ nN hT2, by rw [e]; exact Z.nb⟩
        · exact ⟨T, o, fl, oth _ _ (Ne.symm L3) hz, hfl, oth _ _ (fun e => by rw [e] at a; exact absurd (Nat.lt_of_lt_of_le N6 a) (Nat.lt_irrefl _)) b, a⟩
      · exact oth _ _ (Ne.symm L4) (hkk _ _ S.TIz S.TITO S.TIi1 S.TIi2 Z.ti)
      · exact D1.frame _ _ _ st1 fun b hb o e => oth b o (fun q => L1 (q ▸ hb)) e
      · exact D2.frame _ _ _ st2 fun b hb o e => oth b o (fun q => L2 (q ▸ hb)) e
      · rw [List.pairwise_append]
        exact ⟨Z.inc, List.pairwise_singleton _ _, fun a ha b hb => by rw [List.mem_singleton.mp hb]; exact (Z.bd a ha).2⟩
      · intro T' hT'
        have hs2 : (h'.update L (Obj.mapSeq (·.push (Value.ref s.heap.objs.size)))).objs.size = h'.objs.size := Heap.size_update ..
        rw [hs2, hsz]
        rcases List.mem_append.mp hT' with m | m
        · exact ⟨(Z.bd T' m).1, Nat.lt_succ_of_lt (Z.bd T' m).2⟩
        · rw [List.mem_singleton.mp m]
          exact ⟨Z.nb, Nat.lt_succ_self _⟩
      · by_cases hq : k' < Ts.length
        · rw [List.getElem?_append_left hq] at hk'
          obtain ⟨x, y, e1, e2, e3⟩ := Z.it k' T' hk'
          have hb := (Z.bd T' (List.mem_of_getElem? hk')).1
          have ne : ∀ {c : Addr}, c < N → T' ≠ c := fun {c} hc e => absurd (Nat.lt_of_lt_of_le (e ▸ hc) hb) (Nat.lt_irrefl _)
          exact ⟨x, y, oth _ _ (ne N6) (hkk _ _ (ne N1) (ne N3) (ne N4) (ne N5) e1), e2, e3⟩
        · rw [List.getElem?_append_right (by omega)] at hk'
          have hk0 : k' = Ts.length := by
            have := (List.getElem?_eq_some_iff.mp hk').1
            simp at this
            omega
          subst hk0
          simp at hk'
          subst hk'
          rw [Z.len]
          exact ⟨x1, x2, oth _ _ nN hT2, hx1, hx2⟩
      · have hs2 : (h'.update L (Obj.mapSeq (·.push (Value.ref s.heap.objs.size)))).objs.size = h'.objs.size := Heap.size_update ..
        show N ≤ (h'.update L _).objs.size
        rw [hs2, hsz]
        exact Nat.le_succ_of_le Z.nb
      · show (h'.update L _).get? L = _
        rw [hself]
        simp [Obj.mapSeq, cOf]
    rcases Z.zs with ⟨_, hz, a, b, hTO⟩ | ⟨T, o, fl, hz, hfl, hT, hNT⟩
    · exact wpAny_bind (wpAny_pyNext_zipD2_item S D1 D2 hz Z.ti hTO Z.s1 Z.s2 (by omega) (by omega) fun x1 x2 h' tk a1 a2 a3 a4 a5 a6 a7 a8 a9 => go x1 x2 h' tk s.heap.objs.size default (.bool false) (.inl rfl) a1 a2 a3 (.inl rfl) a5 a6 a7 a8 a9)
    · refine wpAny_bind (pyNextO_item S D1 D2 hz hfl hT Z.ti Z.s1 Z.s2 (by omega) (by omega) fun x1 x2 h' tk a1 a2 a3 a5 a6 a7 a8 a9 => go x1 x2 h' tk T o (.bool true) (.inr ⟨hNT, ?_⟩) a1 a2 a3 (.inr rfl) a5 a6 a7 a8 fun c o a _ b d e => a9 c o a b d e)
      have ne : ∀ {c : Addr}, c < N → T ≠ c := fun {c} hc e => absurd (Nat.lt_of_lt_of_le (e ▸ hc) hNT) (Nat.lt_irrefl _)
      exact a9 _ _ (ne N1) (ne N4) (ne N5) hT
theorem call_list_zip {E : Value → Shared → Prop} {Q : Value → Shared → Prop} (S : ZipSep2 z TI TO i1 i2 fp1 fp2) (D1 : Draws prog w A.in1.in1.in1 i1 fp1 n1 P1 St1) (D2 : Draws prog w A.in1.in1.in1 i2 fp2 n2 P2 St2)
    (hz : IsZip s.heap z TI TO .none) (hTI : IsTupOf2 s.heap TI (.ref i1) (.ref i2)) {a1 a2 : Value} (hTO : IsTupOf2 s.heap TO a1 a2) (st1 : St1 0 s.heap) (st2 : St2 0 s.heap) (hf1 : ∀ b ∈ fp1, b < s.heap.objs.size) (hf2 : ∀ b ∈ fp2, b < s.heap.objs.size) (hn : min n1 n2 ≤ 1000000)
    (hQ : ∀ (h' : Heap) (tk : Nat) (Ts : List Addr) (c' : Nat), Ts.length = min n1 n2 → Ts.Pairwise (· < ·) → (∀ T ∈ Ts, s.heap.objs.size + 1 ≤ T) → (∀ (k : Nat) (T : Addr), Ts[k]? = some T → ∃ x y, h'.get? T = some { cls := .type "tuple", data := .seq #[x, y] } ∧ P1 k x ∧ P2 k y) →
      (∀ c o, c ≠ z → c ≠ TO → c ≠ i1 → c ≠ i2 → s.heap.get? c = some o → h'.get? c = some o) → h'.get? s.heap.objs.size = some { cls := .type "list", dict := none, data := .seq (Ts.map Value.ref).toArray c', slots := #[] } →
      Q (.ref s.heap.objs.size) { s with heap := h', toks := tk }) : wpAny (model prog w) A (call (.type "list") [.ref z]) Q E s := by
  have hzl : z < s.heap.objs.size
        := Heap.lt_size hz
  have hTIl : TI < s.heap.objs.size := Heap.lt_size hTI
  have hTOl : TO < s.heap.objs.size := Heap.lt_size hTO
  have h1l := hf1 _ S.mem1
  have h2l := hf2 _ S.mem2
  have lt_ne : ∀ {c : Addr}, c < s.heap.objs.size → s.heap.objs.size ≠ c := fun {c} h e => absurd (e ▸ h) (Nat.lt_irrefl _)
  refine callType_codes (Q₁ := fun obj s₁ => obj = .ref s.heap.objs.size ∧ s₁ = { s with heap := s.heap.push { cls := .type "list", data := .seq #[] } }) F.called_list (F.typeCall_list_1 _) F.entry_list_init (code_list_new _ ⟨rfl, rfl⟩) fun obj s₁ h₁ => ?_
  obtain ⟨rfl, rfl⟩ := h₁
  have hL : (s.heap.push { cls := .type "list", data := .seq #[] }).get? s.heap.objs.size = some { cls := .type "list", data := .seq #[] } := Heap.get?_push_size _ rfl
  refine ⟨⟨_, hL, rfl⟩, F.args_list_init_2 _ _, ?_⟩
  have up0 : ∀ b o, s.heap.get? b = some o → (s.heap.push { cls := .type "list", data := .seq #[] }).get? b = some o := fun b o e => Heap.get?_push_of_some _ e
  show wpAny _ A.in1.in1 (do let old ← Builtin.List.listItems (.ref s.heap.objs.size); Builtin.List.listUpdate (.ref s.heap.objs.size) (fun _ => #[]); letGo old.toList.reverse; Builtin.List.listExtendWith (.ref s.heap.objs.size) (.ref z) .none) _ _ _
  refine wpAny_bind ?_
  unfold Builtin.List.listItems
  refine wpAny_bind (wpAny_seqItems hL rfl (wpAny_pure ?_))
  show wpAny _ A.in1.in1 (updateSeq s.heap.objs.size (fun _ => #[]) >>= fun _ => letGo (#[] : Array Value).toList.reverse >>= fun _ => Builtin.List.listExtendWith (.ref s.heap.objs.size) (.ref z) .none) _ _ _
  refine wpAny_bind (wpAny_updateSeq hL rfl ?_)
  have hL2 := Heap.get?_update_self (Obj.mapSeq (fun _ => (#[] : Array Value))) hL rfl
  have up1 : ∀ b o, s.heap.get? b = some o → ((s.heap.push { cls := .type "list", data := .seq #[] }).update s.heap.objs.size (Obj.mapSeq (fun _ => (#[] : Array Value)))).get? b = some o :=
    fun b o e => (Heap.get?_update_other _ _ (lt_ne (Heap.lt_size e))).trans (up0 b o e)
  refine wpAny_bind
        (wpAny_letGo ?_)
  unfold
        Builtin.List.listExtendWith
  have tz : Shared.TypeIs { s with heap := (s.heap.push { cls := .type "list", data := .seq #[] }).update s.heap.objs.size (Obj.mapSeq (fun _ => (#[] : Array Value))) } (.ref z) "zip" := ⟨_, up1 _ _ hz, rfl⟩
  refine wpAny_bind (wpAny_typeOf tz ?_)
  have e1 : Builtin.List.listSameRef (.ref s.heap.objs.size) (.ref z) = false := by
    have := lt_ne hzl
    simp [Builtin.List.listSameRef, this]
  have e2 : (Value.type "zip" == Value.type "list") = false := by decide
  have e3 : (Value.type "zip" == Value.type "tuple") = false := by decide
  simp only [e1, e2, e3, Bool.or_false, Bool.false_eq_true, if_false]
  refine wpAny_bind (wpAny_pyIter_zip (TI := TI) (TO := TO) (f0 := .none) (up1 _ _ hz) ?_)
  refine wpAny_bind
        (wpAny_holding ?_)
  unfold
        Builtin.List.listLengthHint
  refine wpAny_bind (wpAny_specialOf tz zip_no_len ?_)
  show wpAny _ A.in1.in1 (specialOf (Value.ref z) (Str.ofString "__length_hint__") >>= _) _ _ _
  refine wpAny_bind (wpAny_specialOf tz zip_no_hint ?_)
  refine wpAny_pure ?_
  show wpAny _ A.in1.in1 (rule "list.extend.makes-room" >>= fun _ => Builtin.List.listTouch (.ref s.heap.objs.size) >>= fun _ => again (.builtin "list.extend.loop" ⟨[.ref s.heap.objs.size, .ref z, .none], []⟩)) _ _ _
  refine wpAny_bind
        (wpAny_rule ?_)
  refine wpAny_bind ?_
  show wpAny _ A.in1.in1 (updateSeq s.heap.objs.size (·.push
        .none) >>= fun _ => updateSeq s.heap.objs.size (·.pop)) _ _ _
  refine wpAny_bind (wpAny_updateSeq hL2 rfl ?_)
  have hL3 := Heap.get?_update_self (Obj.mapSeq (·.push Value.none)) hL2 rfl
  refine wpAny_updateSeq (hz := by seq_fits) hL3 rfl ?_
  have hL4 := Heap.get?_update_self (Obj.mapSeq (·.pop)) hL3 rfl
  generalize hgg : (((s.heap.push { cls := .type "list", data := .seq #[] }).update s.heap.objs.size (Obj.mapSeq (fun _ => (#[] : Array Value)))).update s.heap.objs.size (Obj.mapSeq (·.push Value.none))).update s.heap.objs.size (Obj.mapSeq (·.pop)) = gg at hL4
  have up2 : ∀ b o, s.heap.get? b = some o → gg.get? b = some o := fun b o e => by
    have ne := lt_ne (Heap.lt_size e)
    rw [← hgg]
    exact (Heap.get?_update_other _ _ ne).trans ((Heap.get?_update_other _ _ ne).trans (up1 b o e))
  have sz2 : gg.objs.size = s.heap.objs.size + 1 := by
    rw [← hgg, Heap.size_update, Heap.size_update, Heap.size_update, Heap.size_push]
  refine wpAny_pure ⟨plainId_quiet F.plain_extend_loop _, zip_list_loop (N := s.heap.objs.size + 1) S D1 D2 s.heap ⟨fun h => lt_ne (hf1 _ h) rfl, fun h => lt_ne (hf2 _ h) rfl, lt_ne hzl, lt_ne hTIl, lt_ne hTOl⟩
    ⟨Nat.lt_succ_of_lt hzl, Nat.lt_succ_of_lt hTIl, Nat.lt_succ_of_lt hTOl, Nat.lt_succ_of_lt h1l, Nat.lt_succ_of_lt h2l, Nat.lt_succ_self _⟩ hn .none (min n1 n2) 0 _ [] _ rfl (Nat.zero_le _)
    ⟨.inl ⟨rfl, up2 _ _ hz, _, _, up2 _ _ hTO⟩, up2 _ _ hTI, D1.frame _ _ _ st1 fun b _ o e => up2 b o e, D2.frame _ _ _ st2 fun b _ o e => up2 b o e, rfl, .nil, fun T hT => absurd hT (List.not_mem_nil), fun k T h => by simp at h, fun c o _ _ _ _ _ e => up2 c o e, by show _ ≤ gg.objs.size; rw [sz2]; exact Nat.le_refl _⟩ hL4
    fun h' tk Ts c' hZ hLL => ⟨rfl, ?_⟩⟩
  obtain ⟨hf, Z, kk⟩ : ∃ hf, ZL s.heap z TI TO i1 i2 s.heap.objs.size (s.heap.objs.size + 1) P1 P2 St1 St2 (min n1 n2) Ts hf ∧ ∀ c o, c ≠ z → c ≠ TO → c ≠ i1 → c ≠ i2 → hf.get? c = some o → h'.get? c = some o := by
    rcases hZ with Z | ⟨h2, Z, k⟩
    · exact ⟨h', Z, fun c o _ _ _ _ e => e⟩
    · exact ⟨h2, Z, k⟩
  refine hQ h' tk Ts c' Z.len Z.inc (fun T hT => (Z.bd T hT).1) (fun k T hT => ?_) (fun c o a b d e f => kk c o a b d e (Z.keep c o a b d e (fun q => absurd (Heap.lt_size f) (by rw [q]; exact Nat.lt_irrefl _)) f)) hLL
  obtain ⟨x, y, q1, q2, q3⟩ := Z.it k T hT
  have hb := (Z.bd T (List.mem_of_getElem? hT)).1
  have ne : ∀ {c : Addr}, c < s.heap.objs.size → T ≠ c := fun {c} hc e => absurd (Nat.lt_of_lt_of_le (e ▸ hc) (Nat.le_trans (Nat.le_succ _) hb)) (Nat.lt_irrefl _)
  exact ⟨x, y, kk _ _ (ne hzl) (ne hTOl) (ne h1l) (ne h2l) q1, q2, q3⟩
end
end Sh


set_option Elab.async false
set_option linter.all false
set_option maxRecDepth 100000
set_option maxHeartbeats 40000000
set_option autoImplicit false
/-! J14: list(zip(..)) and zip of a tuple and a list, as rules -/
namespace Sh
open PySem PySem.Spec
      PyProof.Rows L2
def updM (H : Hp) (l : List (Addr × HO)) : Hp := fun b => match l.lookup b with
  | some o => some o
  | none => H b
theorem lookup_none {b : Addr} : ∀ {l : List (Addr × HO)}, b ∉ l.map (·.1) → l.lookup b = none
  | [], _ => rfl
  | (a, o) :: l, h => by
    rw [List.lookup_cons, show (b == a) = false from beq_eq_false_iff_ne.mpr fun e => h (by rw [e]; exact List.mem_cons_self)]
    exact lookup_none fun z => h (List.mem_cons_of_mem _ z)
theorem lookup_some {b : Addr} {o : HO} : ∀ {l : List (Addr × HO)}, l.lookup b = some o → (b, o) ∈ l
  | [], h => by cases h
  | (a, u) :: l, h => by
    rw [List.lookup_cons] at h
    cases q : (b == a) with
    | true =>
      rw [q] at h
      cases h
      rw [beq_iff_eq.mp q]
      exact List.mem_cons_self
    | false =>
      rw [q] at h
      exact List.mem_cons_of_mem _ (lookup_some h)
theorem updM_out {H : Hp} {l : List (Addr × HO)} {b : Addr} (h : b ∉ l.map (·.1)) : updM H l b = H b := by unfold updM; rw [lookup_none h]
theorem updM_same {H : Hp} {l : List (Addr × HO)} (h : ∀ p ∈ l, H p.1 = none) : Same H (updM H l) := fun a o e => by
  rw [updM_out]
  · exact e
  · intro z
    obtain ⟨p, hp, rfl⟩ := List.mem_map.mp z
    rw [h p hp] at e
    cases e
/-- several new objects -/
theorem Inv.laidM {X : Cx} {pins : List (Addr × Obj)} {σ : L2.St} {H : Hp} {s : Shared} {h' : Heap} {t' : Nat} {l : List (Addr × HO)} (I : Inv X pins σ H s) (k : ∀ b u, s.heap.get? b = some u → h'.get? b = some u) (hp : ∀ p ∈ l, s.heap.objs.size ≤ p.1)
    (new : ∀ p ∈ l, ObjOk X.prog X.w (updM H l) h' p.1 p.2) : Inv X pins σ (updM H l) { s with heap := h', toks := t' } := by
  have out : ∀ b o, s.heap.get? b = some o → b ∉ l.map (·.1) := fun b o e z => by
    obtain ⟨p, hpm, q⟩ := List.mem_map.mp z
    have := hp p hpm
    rw [q] at this
    exact absurd (Nat.lt_of_lt_of_le (Heap.lt_size e) this) (Nat.lt_irrefl _)
  have fr : ∀ p ∈ l, H p.1 = none := fun p hpm => I.hok.fresh (hp p hpm)
  have sm := updM_same fr
  refine I.un ⟨fun b o e n _ _ => k b o e, fun b o e n _ _ => ⟨o.slots, k b o e⟩, fun b o e n _ => by rw [updM_out (out b o e)]; exact n, fun b o e _ => ⟨o, k b o e⟩, fun b xs e => sm b _ e, fun b o u e => sm b _ e, fun b ps e => ⟨#[], by rw [sm b _ e]; simp⟩⟩ fun b o e => ?_
  unfold updM at e
  cases q : l.lookup b with
  | some o' =>
    rw [q] at e
    cases e
    exact new _ (lookup_some q)
  | none =>
    rw [q] at e
    exact (I.hok b o e).stay (fun c v hc z => k c v z) (fun c hc => sm c _ hc) fun c xs hc => sm c _ hc
/-- what list(zip(a, b)) makes: pairs at Ts, the list at L -/
def zipH (H : Hp) (Ts : List Addr) (ps : List (V × V)) (L : Addr) : Hp := updM H ((L, .lst (Ts.map V.ref)) :: Ts.zip (ps.map fun q => HO.tup [q.1, q.2]))
def tLstZ (K : PySem.W.Frag) (ta : TA) : TE := fun σ H Q => ta σ H fun vs H1 => ∃ (a b : Addr) (xs ys : List V), vs = [.ref a, .ref b] ∧ SqL K H1 a xs ∧ SqT K H1 b ys ∧ xs.length ≤ 1000000 ∧
  ∀ (Ts : List Addr) (L : Addr), Ts.length = (xs.zip ys).length → Ts.Nodup → (∀ T ∈ Ts, H1 T = none) → H1 L = none → L ∉ Ts → Q (.ref L) (zipH H1 Ts (xs.zip ys) L)
theorem lookup_zip {α : Type} {f : α → HO} : ∀ {Ts : List Addr} {ps : List α} {k : Nat} {T : Addr} {q : α}, Ts.Nodup → Ts[k]? = some T → ps[k]? = some q → (Ts.zip (ps.map f)).lookup T = some (f q)
  | [], _, _, _, _, _,
        h, _ => by simp at h
  | _ :: _, [], _, _, _,
        _, _, h => by simp at h
  | T0 :: Ts, p0 :: ps, 0, T, q, _, h1, h2 => by
    simp at h1 h2
    subst h1 h2
    simp [List.lookup_cons]
  | T0 :: Ts, p0 :: ps, k + 1, T, q, hn, h1, h2 => by
    obtain ⟨n1, n2⟩ := List.nodup_cons.mp hn
    have h1' : Ts[k]? = some T := by simpa using h1
    have ne : (T == T0) = false := beq_eq_false_iff_ne.mpr fun e => n1 (e ▸ List.mem_of_getElem? h1')
    rw [List.map_cons, List.zip_cons_cons, List.lookup_cons, ne]
    exact lookup_zip n2 h1' (by simpa using h2)
theorem pe_listZip {X : Cx} {e e2 : Expr} {ta : TA} {p p2 q pos : Pos} (hc : X.calm = true) (hg : Gl X "list") (hm : X.mg "list" = none) (hg2 : Gl X "zip") (hm2 : X.mg "zip" = none) (ha : PA X [e, e2] ta)
    (hs : starEach [e, e2] X.env = (false, eval e X.env) :: starEach [e2] X.env) (hpl : (backTo q (starEach [e2] X.env)).any (·.1) = false)
    (na : starEach [.Call (.Name "zip" p2) [e, e2] [] q] X.env = (false, eval (.Call (.Name "zip" p2) [e, e2] [] q) X.env) :: starEach [] X.env) : PE X (.Call (.Name "list" p) [.Call (.Name "zip" p2) [e, e2] [] q] [] pos) (tLstZ X.K ta) := by
  refine ⟨fun pins
        s σ H Q I h => ?_⟩
  refine Call_ (ld_blt I hg hm boot_list (PyProof.Rows.callWith_type1 (args_cons ?_ na) na))
  refine Call_ (ld_blt I hg2 hm2 PyProof.Rows.boot_zip (PyProof.Rows.callWith_type1 (thn (ha.run q pins s σ H _ I h) fun us s1 ⟨vs, H1, I1, r1, q1⟩ => ?_) hs hpl))
  obtain ⟨a, b, xs, ys, rfl, hqx, hqy, hz6, q1⟩ := q1
  cases r1 with
  | cons r rr =>
    cases rr with
    | cons r' rr =>
      cases rr
      cases r
      cases r'
      obtain ⟨its, rv, pl, _⟩ := I1.list hqx
      obtain ⟨its2, rv2, pt, _⟩ := I1.tuple hqy
      have hal : a < s1.heap.objs.size := pl.lt
      have hbl : b < s1.heap.objs.size := by obtain ⟨_, z, _⟩ := pt; exact Heap.lt_size z
      refine zip_begins2 (begins_list a its.toArray) (begins_tuple b its2.toArray) pl.isList pt fun h' hz hTI hTO h1 h2 hsz hk => args_nil ?_
      have hcd := I1.ok.hd hc
      have D1 : Draws X.prog X.w X.A.in1.in1.in1 s1.heap.objs.size [s1.heap.objs.size, a] its.toArray.size (fun i v => its.toArray[i]? = some v) (fun i h => h.IsListIter s1.heap.objs.size a i ∧ h.IsList a its.toArray) := Draws.list (A := X.A.in1.in1.in1) hcd _ a (Nat.ne_of_lt hal) its.toArray
      have D2 : Draws X.prog X.w X.A.in1.in1.in1 (s1.heap.objs.size + 1) [s1.heap.objs.size + 1, b] its2.toArray.size (fun i v => its2.toArray[i]? = some v) (fun i h => h.IsTupleIter (s1.heap.objs.size + 1) b i ∧ h.IsTuple b its2.toArray) :=
        Draws.tuple (A := X.A.in1.in1.in1) hcd _ b (Nat.ne_of_lt (Nat.lt_succ_of_lt hbl)) its2.toArray
      have lx : its.toArray.size = xs.length := by rw [List.size_toArray, ← rv.length]
      have ly : its2.toArray.size = ys.length := by rw [List.size_toArray, ← rv2.length]
      refine call_list_zip (s := { s1 with heap := h' }) (zip_sep2 (N := s1.heap.objs.size) (fp1 := [a]) (fp2 := [b]) (fun c hc => by rw [List.mem_singleton.mp hc]; exact hal) (fun c hc => by rw [List.mem_singleton.mp hc]; exact hbl)) D1 D2 hz hTI hTO
        ⟨⟨_, h1, rfl, rfl⟩, pl.isList.at fun o e => hk _ o e⟩ ⟨⟨_, h2, rfl, rfl⟩, (show h'.IsTuple b its2.toArray from let ⟨o, e, r⟩ := pt; ⟨o, hk _ _ e, r⟩)⟩ (fun c hc => ?_) (fun c hc => ?_) (by omega) fun h'' tk Ts c' hl hinc hge hit hkp hL => ?_
      · show c < h'.objs.size
        rw [hsz]
        rcases List.mem_cons.mp hc with e | e
        · rw [e]; exact Nat.lt_add_of_pos_right (by decide)
        · rw [List.mem_singleton.mp e]; exact Nat.lt_of_lt_of_le hal (Nat.le_add_right _ _)
      · show c < h'.objs.size
        rw [hsz]
        rcases List.mem_cons.mp hc with e | e
        · rw [e]; exact Nat.add_lt_add_left (by decide) _
        · rw [List.mem_singleton.mp e]; exact Nat.lt_of_lt_of_le hbl (Nat.le_add_right _ _)
      · replace hL : h''.get? h'.objs.size = some { cls := .type "list", dict := none, data := .seq (Ts.map Value.ref).toArray c', slots := #[] } := hL
        replace hge : ∀ T ∈ Ts, h'.objs.size + 1 ≤ T := hge
        replace hkp : ∀ c o, c ≠ s1.heap.objs.size + 4 → c ≠ s1.heap.objs.size + 3 → c ≠ s1.heap.objs.size → c ≠ s1.heap.objs.size + 1 → h'.get? c = some o → h''.get? c = some o := hkp
        have keep : ∀ c o, s1.heap.get? c = some o → h''.get? c = some o := fun c o e => by
          have hc := Heap.lt_size e
          have ne : ∀ j : Nat, c ≠ s1.heap.objs.size + j := fun j z => absurd (Nat.lt_of_lt_of_le (z ▸ hc : s1.heap.objs.size + j < s1.heap.objs.size) (Nat.le_add_right _ _)) (Nat.lt_irrefl _)
          exact hkp c o (ne 4) (ne 3) (ne 0) (ne 1) (hk c o e)
        have ndT : Ts.Nodup := hinc.imp fun {a b} h => Nat.ne_of_lt h
        have geS : ∀ T ∈ Ts, s1.heap.objs.size ≤ T := fun T hT => by
          have := hge T hT
          rw [hsz] at this
          exact Nat.le_trans (Nat.le_trans (Nat.le_add_right _ 5) (Nat.le_succ _)) this
        have Lge : s1.heap.objs.size ≤ h'.objs.size := by rw [hsz]; exact Nat.le_add_right _ _
        have LnT : h'.objs.size ∉ Ts := fun z => absurd (hge _ z) (Nat.not_succ_le_self _)
        have lT : Ts.length = (xs.zip ys).length := by rw [hl, List.length_zip, lx, ly]
        show EP X pins σ Q (.ref h'.objs.size) { s1 with heap := h'', toks := tk }
        have fresh : ∀ T ∈ Ts, H1 T = none := fun T hT => I1.hok.fresh (geS T hT)
        refine ⟨.ref h'.objs.size, zipH H1 Ts (xs.zip ys) h'.objs.size, Inv.laidM (t' := tk) I1 keep (fun p hp => ?_) (fun p hp => ?_), rfl, q1 Ts _ lT ndT fresh (I1.hok.fresh Lge) LnT⟩
        · rcases List.mem_cons.mp hp with e | e
          · rw [e]; exact Lge
          · exact geS _ (List.of_mem_zip e).1
        · rcases List.mem_cons.mp hp with e | e
          · rw [e]
            refine ⟨by rw [List.length_map, lT, List.length_zip, sizeLine_eq]; omega, Ts.map Value.ref, c', ?_, hL⟩
            have : ∀ l : List Addr, Vals (l.map V.ref) (l.map Value.ref) := fun l => by
              induction l with
              | nil => exact .nil
              | cons c l ih => exact .cons (show RelV (.ref c) (.ref c) from rfl) ih
            exact this Ts
          · obtain ⟨k, hk, ek⟩ := List.getElem_of_mem e
            have hk1 : k < Ts.length := by rw [List.length_zip] at hk; omega
            have hk2 : k < (xs.zip ys).length := by rw [← lT]; exact hk1
            have e1 : Ts[k]? = some p.1 := by
              rw [← ek, List.getElem_zip, List.getElem?_eq_getElem hk1]
            have e2 : p.2 = HO.tup [((xs.zip ys)[k]).1, ((xs.zip ys)[k]).2] := by
              rw [← ek, List.getElem_zip, List.getElem_map]
            obtain ⟨x, y, o1, o2, o3⟩ := hit k _ e1
            rw [List.length_zip] at hk2
            have hx : its[k]? = some x := by simpa using o2
            have hy : its2[k]? = some y := by simpa using o3
            obtain ⟨u, hu, ru⟩ := rv.get (i := k) (x := xs[k]'(by omega)) (by rw [List.getElem?_eq_getElem])
            obtain ⟨u2, hu2, ru2⟩ := rv2.get (i := k) (x := ys[k]'(by omega)) (by rw [List.getElem?_eq_getElem])
            rw [hx] at hu
            rw [hy] at hu2
            cases hu
            cases hu2
            rw [e2]
            refine ⟨by show 2 ≤ sizeLine; decide, [x, y], ?_, ⟨_, o1, rfl, _, rfl⟩⟩
            rw [List.getElem_zip]
            exact .cons ru (.cons ru2 .nil)
section
variable {S : SC} {ds : List Slot} {a b : Expr} {xs ys : List PyData} {p p2 q pos : Pos}
theorem je_listZip (ha : JE S ds a (.list xs)) (hb : JE S ds b (.tuple ys)) (hz : xs.length ≤ 1000000) (hm : S.mg ("list" : Str) = none) (hm2 : S.mg ("zip" : Str) = none) (hg : S.scope.names.lookup ("list" : Str) = some .globalImplicit := by rfl) (hg2 : S.scope.names.lookup ("zip" : Str) = some .globalImplicit := by rfl)
    (he : ∀ env, starEach [a, b] env = (false, eval a env) :: starEach [b] env := by intro _; rfl) (he2 : ∀ env, starEach [b] env = (false, eval b env) :: starEach [] env := by intro _; rfl) (hpl : ∀ env, (backTo q (starEach [b] env)).any (·.1) = false := by intro _; rfl)
    (na : ∀ env, starEach [.Call (.Name "zip" p2) [a, b] [] q] env = (false, eval (.Call (.Name "zip" p2) [a, b] [] q) env) :: starEach [] env := by intro _; rfl) :
    JE S ds (.Call (.Name "list" p) [.Call (.Name "zip" p2) [a, b] [] q] [] pos) (.list ((xs.zip ys).map fun z => .tuple [z.1, z.2])) := by
  intro O σ H st Q kq
  refine te_mk (t := tLstZ S.K (taOf S [a, b])) (fun X h => by rw [← h.K]; exact pe_listZip h.calm (gl_of h hg) (h.mg ▸ hm) (gl_of h hg2) (h.mg ▸ hm2) (pa_taOf h) (he _) (hpl _) (na _)) ?_
  refine ja_cons ha (ja_cons hb ja_nil he2) he O σ H st _ fun vs H1 e1 r1 => ?_
  obtain ⟨va, vb, rfl, ra, rb⟩ := r1.two
  cases ra with
  | @lst q1 us _ h1 rs1 =>
    cases rb with
    | @tup q2 us2 _ h2 rs2 =>
      refine ⟨q1, q2, us, us2, rfl, SqL.of (hide_sub _ _ h1), SqT.of (hide_sub _ _ h2), by rw [rs1.len]; exact hz, fun Ts L hl hn hf hL hLT => ?_⟩
      have fr : ∀ p ∈ (L, HO.lst (Ts.map V.ref)) :: Ts.zip ((us.zip us2).map fun q => HO.tup [q.1, q.2]), H1 p.1 = none := fun p hp => by
        rcases List.mem_cons.mp
              hp with e | e
        · rw [e]; exact hL
        · exact hf _ (List.of_mem_zip e).1
      have sm : Same H1 (zipH H1 Ts (us.zip us2) L) := updM_same fr
      have dom := dom_mono st.dom e1
      have nO : ∀ {c : Addr}, H1 c = none → c ∉ O := fun {c} h z => dom c z h
      refine kq _ _ (e1.trans sm) (.lst (vs := Ts.map V.ref) ?_ ?_)
      · rw [hide_out (nO hL)]
        unfold zipH updM
        rw [List.lookup_cons, beq_self_eq_true]
      · -- the pairs
        have key : ∀ k, k ≤ Ts.length → RpAll (hide O (zipH H1 Ts (us.zip us2) L)) ((Ts.map V.ref).drop k) (((xs.zip ys).map fun z => PyData.tuple [z.1, z.2]).drop k) := by
          have lz : (us.zip us2).length = (xs.zip ys).length := by rw [List.length_zip, List.length_zip, rs1.len, rs2.len]
          intro k hk
          induction hd : Ts.length - k generalizing k with
          | zero =>
            rw [List.drop_eq_nil_of_le (by rw [List.length_map]; omega), List.drop_eq_nil_of_le (by rw [List.length_map]; omega)]
            exact .nil
          | succ n ih =>
            have hk1 : k < Ts.length := by omega
            have hk2 : k < (xs.zip ys).length := by omega
            have d1 := List.drop_eq_getElem_cons (l := Ts.map V.ref) (i := k) (by rw [List.length_map]; exact hk1)
            have d2 := List.drop_eq_getElem_cons (l := (xs.zip ys).map fun z => PyData.tuple [z.1, z.2]) (i := k) (by rw [List.length_map]; exact hk2)
            rw [d1, d2]
            refine .cons ?_ (ih (k + 1) (by omega) (by omega))
            rw [List.getElem_map, List.getElem_map]
            have hTk := hf _ (List.getElem_mem hk1)
            have hk3 : k < (us.zip us2).length := by omega
            have hb := hk2
            rw [List.length_zip] at hb
            have hc := hk3
            rw [List.length_zip] at hc
            refine .tup (vs := [((us.zip us2)[k]).1, ((us.zip us2)[k]).2]) ?_ ?_
            · rw [hide_out (nO hTk)]
              unfold zipH updM
              rw [List.lookup_cons, show (Ts[k] == L) = false from beq_eq_false_iff_ne.mpr fun e => hLT (e ▸ List.getElem_mem hk1)]
              rw [lookup_zip (f := fun q : V × V => HO.tup [q.1, q.2]) hn (List.getElem?_eq_getElem hk1) (List.getElem?_eq_getElem hk3)]
            · rw [List.getElem_zip, List.getElem_zip]
              obtain ⟨v1, a1, a2⟩ := rs1.get (i := k) (d := xs[k]'(by omega)) (by rw [List.getElem?_eq_getElem])
              obtain ⟨v2, b1, b2⟩ := rs2.get (i := k) (d := ys[k]'(by omega)) (by rw [List.getElem?_eq_getElem])
              rw [List.getElem?_eq_getElem (by omega)] at a1 b1
              cases a1
              cases b1
              exact .cons (a2.mono (hide_same sm)) (.cons (b2.mono (hide_same sm)) .nil)
        exact key 0 (Nat.zero_le _)
end
end Sh


set_option Elab.async false
set_option linter.all false
set_option maxRecDepth 100000
set_option maxHeartbeats 40000000
set_option autoImplicit false
/-! J15: for x, y in zip(tuple, list) -/
namespace Sh
open PySem PySem.Spec
      PyProof.Rows L2
/-- the tuple at a, the list at b, as they stand at each turn -/
def ItM (K : PySem.W.Frag) (a b : Addr) : It :=
  ⟨fun i H => ∃ (xs ys : List V) (x y : V), SqT K H a xs ∧ SqL K H b ys ∧ xs[i]? = some x ∧ ys[i]? = some y,
    fun i H v H' => ∃ T x y, v = .ref T ∧ H T = none ∧ H' = upd H T (.tup [x, y]) ∧ (∀ xs, SqT K H a xs → xs[i]? = some x) ∧ ∀ ys, SqL K H b ys → ys[i]? = some y,
    fun i H => ∃ xs ys : List V, SqT K H a xs ∧ SqL K H b ys ∧ i ≤ xs.length ∧ i ≤ ys.length ∧ (xs.length = i ∨ ys.length = i)⟩
theorem turn_zipM {P : Program} {w : World} {K : PySem.W.Frag} {elts : List Expr} {kk : Nat} {tpos : Pos} {N a b : Addr} (ha : a < N) (hb : b < N) :
    Turn P w K (.Tuple elts kk tpos) (ItM K a b) [N + 4, N + 2, N + 3, N, N + 1] (N + 4) (fun i h => IsZip h (N + 4) (N + 2) (N + 3) .none ∧ IsTupOf2 h (N + 2) (.ref N) (.ref (N + 1)) ∧ (∃ x y, IsTupOf2 h (N + 3) x y) ∧ h.IsTupleIter N a i ∧ h.IsListIter (N + 1) b i) := by
  have Sp : ZipSep2 (N + 4) (N + 2) (N + 3) N (N + 1) [N, a] [N + 1, b] := zip_sep2 (N := N) (fp1 := [a]) (fp2 := [b]) (fun c hc => by rw [List.mem_singleton.mp hc]; exact ha) (fun c hc => by rw [List.mem_singleton.mp hc]; exact hb)
  refine { mem := by simp, obj := ?_, keep := ?_, item := ?_, done := ?_, self := fun A i s Q E st h => wpAny_pyIter_zip st.1 h }
  · rintro i h ⟨hz, hI, ⟨x, y, hO⟩, ⟨o1, e1, _, d1⟩, ⟨o2, e2, _, d2⟩⟩ c hc
    have : c = N + 4 ∨ c = N + 2 ∨ c = N + 3 ∨ c = N ∨ c = N + 1 := by simpa using hc
    rcases this with rfl | rfl | rfl | rfl | rfl
    · exact ⟨_, hz, fun v q => nomatch q⟩
    · exact ⟨_, hI, fun v q => nomatch q⟩
    · exact ⟨_, hO, fun v q => nomatch q⟩
    · exact ⟨o1, e1, fun v q => by rw [d1] at q; cases q⟩
    · exact ⟨o2, e2, fun v q => by rw [d2] at q; cases q⟩
  · rintro i h h' ⟨hz, hI, ⟨x, y, hO⟩, h1, h2⟩ k
    exact ⟨k _ (by simp) _ hz, k _ (by simp) _ hI, ⟨x, y, k _ (by simp) _ hO⟩, h1.at fun o q => k _ (by simp) o q, h2.at fun o q => k _ (by simp) o q⟩
  · intro X hP hw hK hc i pins s σ H E I hf st hg
    subst hP hw hK
    obtain ⟨hz, hI, ⟨x0, y0, hO⟩, h1, h2⟩ := st
    obtain ⟨xs, ys, x, y, qx, qy, ex, ey⟩ := hg
    obtain ⟨its, rv, pt, _⟩ := I.tuple qx
    obtain ⟨its2, rv2, pl, _⟩ := I.list qy
    obtain ⟨u, hu, ru⟩ := rv.get ex
    obtain ⟨u2, hu2, ru2⟩ := rv2.get ey
    have zl : (N + 4 : Nat) < s.heap.objs.size := Heap.lt_size hz
    have D1 : Draws X.prog X.w X.A.in1 N [N, a] its.toArray.size (fun i v => its.toArray[i]? = some v) (fun i h => h.IsTupleIter N a i ∧ h.IsTuple a its.toArray) := Draws.tuple (A := X.A.in1) (I.ok.hd hc) N a (Nat.ne_of_lt ha) its.toArray
    have D2 : Draws X.prog X.w X.A.in1 (N + 1) [N + 1, b] its2.toArray.size (fun i v => its2.toArray[i]? = some v) (fun i h => h.IsListIter (N + 1) b i ∧ h.IsList b its2.toArray) := Draws.list (A := X.A.in1) (I.ok.hd hc) (N + 1) b (Nat.ne_of_lt (Nat.lt_succ_of_lt hb)) its2.toArray
    have b1 : i < its.toArray.size := by have := (List.getElem?_eq_some_iff.mp hu).1; simpa using this
    have b2 : i < its2.toArray.size := by have := (List.getElem?_eq_some_iff.mp hu2).1; simpa using this
    refine wpAny_pyNext_zipD2_item Sp D1 D2 hz hI hO ⟨h1, pt⟩ ⟨h2, pl.isList⟩ b1 b2 fun v1 v2 h' tk g1 g2 z' O' s1' s2' hT hsz hk => ?_
    have e1 : v1 = u := by
      have : its.toArray[i]? = some u := by simpa using hu
      rw [this] at g1; exact (Option.some.inj g1).symm
    have e2 : v2 = u2 := by
      have : its2.toArray[i]? = some u2 := by simpa using hu2
      rw [this] at g2; exact (Option.some.inj g2).symm
    subst e1 e2
    refine ⟨_, rfl, wpAny_letOwnedTupleGo_zip (s := { s with heap := h', toks := tk }) z' fun h'' z'' sb => ?_⟩
    have hT2 : h''.get? s.heap.objs.size = some { cls := .type "tuple", data := .seq #[v1, v2] } := (sb.2 _ (Nat.ne_of_gt zl)).trans hT
    have new : ObjOk X.prog X.w (upd H s.heap.objs.size (.tup [x, y])) h'' s.heap.objs.size (.tup [x, y]) := ⟨by show 2 ≤ sizeLine; decide, [v1, v2], .cons ru (.cons ru2 .nil), ⟨_, hT2, rfl, _, rfl⟩⟩
    have kk : ∀ c o, c ∉ [N + 4, N + 2, N + 3, N, N + 1] → s.heap.get? c = some o → h''.get? c = some o := fun c o hb q => by
      refine (sb.2 c (fun e => hb (by simp [e]))).trans (hk c o (fun e => hb (by simp [e])) (fun e => hb (by simp [e])) (fun e => hb (by simp [e])) (fun e => hb (by simp [e])) q)
    have I1 : Inv X pins σ (upd H s.heap.objs.size (.tup [x, y])) { s with heap := h'', toks := tk } := I.turnedNew (ch := [N + 4, N + 2, N + 3, N, N + 1]) kk hf (Nat.le_refl _) new
    refine ⟨.ref s.heap.objs.size, _, I1, rfl, ⟨_, x, y, rfl, I.hok.fresh (Nat.le_refl _), rfl, fun l hl => by rw [I.tuple_inj hl qx]; exact ex, fun l hl => by rw [I.list_inj hl qy]; exact ey⟩, ⟨z'', ?_, ⟨v1, v2, ?_⟩, ?_, ?_⟩, fun c hcm => ?_⟩
    · exact (sb.2 _ Sp.TIz).trans (hk _ _ Sp.TIz Sp.TITO Sp.TIi1 Sp.TIi2 hI)
    · exact (sb.2 _ Sp.TOz).trans O'
    · exact s1'.1.at fun o q => (sb.2 _ (Ne.symm Sp.zi1)).trans q
    · exact s2'.1.at fun o q => (sb.2 _ (Ne.symm Sp.zi2)).trans q
    · have lt : c < s.heap.objs.size := by
        have : c = N + 4 ∨ c = N + 2 ∨ c = N + 3 ∨ c = N ∨ c = N + 1 := by simpa using hcm
        have le : ∀ j : Nat, j ≤ 4 → (N + j : Nat) < s.heap.objs.size := fun j hj => Nat.lt_of_le_of_lt (Nat.add_le_add_left hj _) zl
        rcases this with e | e | e | e | e
        · rw [e]; exact le 4 (by decide)
        · rw [e]; exact le 2 (by decide)
        · rw [e]; exact le 3 (by decide)
        · rw [e]; exact le 0 (by decide)
        · rw [e]; exact le 1 (by decide)
      rw [upd_ne (Nat.ne_of_lt lt)]
      exact (hf c hcm).1
  · intro X hP hw hK hc i pins s σ H E I hf st hg
    subst hP hw hK
    obtain ⟨hz, hI, ⟨x0, y0, hO⟩, h1, h2⟩ := st
    obtain ⟨xs, ys, qx, qy, i1, i2, he⟩ := hg
    obtain ⟨its, rv, pt, _⟩ := I.tuple qx
    obtain ⟨its2, rv2, pl, _⟩ := I.list qy
    have D1 : Draws X.prog X.w X.A.in1 N [N, a] its.toArray.size (fun i v => its.toArray[i]? = some v) (fun i h => h.IsTupleIter N a i ∧ h.IsTuple a its.toArray) := Draws.tuple (A := X.A.in1) (I.ok.hd hc) N a (Nat.ne_of_lt ha) its.toArray
    have D2 : Draws X.prog X.w X.A.in1 (N + 1) [N + 1, b] its2.toArray.size (fun i v => its2.toArray[i]? = some v) (fun i h => h.IsListIter (N + 1) b i ∧ h.IsList b its2.toArray) := Draws.list (A := X.A.in1) (I.ok.hd hc) (N + 1) b (Nat.ne_of_lt (Nat.lt_succ_of_lt hb)) its2.toArray
    have l1 : its.toArray.size = xs.length := by rw [List.size_toArray, ← rv.length]
    have l2 : its2.toArray.size = ys.length := by rw [List.size_toArray, ← rv2.length]
    exact wpAny_pyNext_zipD2_end Sp D1 D2 hz hI hO ⟨h1, pt⟩ ⟨h2, pl.isList⟩ (by omega) (by omega) (by omega) fun h' tk hk => ⟨rfl, I.turnedL (t' := tk) (ch := [N + 4, N + 2, N + 3, N, N + 1]) (fun c o hb q =>
      hk c o (fun q' => hb
            (by simp [q'])) (fun q' => hb (by simp [q'])) (fun q' => hb (by simp [q'])) (fun q' => hb (by simp [q'])) q) hf⟩
def iZipM (K : PySem.W.Frag) (ta : TA) : TI := fun σ H R => ta σ H fun vs H1 => ∃ a b xs ys, vs = [.ref a, .ref b] ∧ SqT K H1 a xs ∧ SqL K H1 b ys ∧ R (ItM K a b) H1
theorem pi_zipM {X : Cx} {e e2 : Expr} {ta : TA} {p pos tpos : Pos} {elts : List Expr} {kk : Nat} (hg : Gl X "zip") (hm : X.mg "zip" = none) (ha : PA X [e, e2] ta)
    (hs : starEach [e, e2] X.env = (false, eval e X.env) :: starEach [e2] X.env) (hpl : (backTo pos (starEach [e2] X.env)).any (·.1) = false) :
    PI X (.Tuple elts kk tpos) (.Call (.Name "zip" p) [e, e2] [] pos) (iZipM X.K ta) := by
  refine ⟨fun pins
        s σ H R I h => ?_⟩
  refine Call_ (ld_blt I hg hm PyProof.Rows.boot_zip (PyProof.Rows.callWith_type1
        (thn (ha.run pos pins s σ H _ I h) fun us s1 ⟨vs, H1, I1, r1, q1⟩ => ?_) hs hpl))
  obtain ⟨a, b, xs, ys, rfl, qx, qy, q⟩ := q1
  cases r1 with
  | cons r rr =>
    cases rr with
    | cons r' rr =>
      cases rr
      cases r
      cases r'
      obtain ⟨its, rv, pt, _⟩ := I1.tuple qx
      obtain ⟨its2, rv2, pl, _⟩ := I1.list qy
      have al : a < s1.heap.objs.size := by obtain ⟨_, z, _⟩ := pt; exact Heap.lt_size z
      refine zip_begins2 (begins_tuple a its.toArray) (begins_list b its2.toArray) pt pl.isList fun h' hz hTI hTO h1 h2 hsz hk => wpAny_pyIter_zip hz ?_
      have I2 : Inv X pins σ H1 { s1 with heap
            := h' } := I1.kept (t' := s1.toks) hk
      refine ⟨_, _, _, _, H1, rfl, I2, turn_zipM (N := s1.heap.objs.size) al pl.lt, ⟨hz, hTI, ⟨_, _, hTO⟩, ⟨_, h1, rfl, rfl⟩, ⟨_, h2, rfl, rfl⟩⟩, fun c hcm => ?_, q⟩
      have hle :
            s1.heap.objs.size ≤ c := by
        have : c = s1.heap.objs.size + 4 ∨ c = s1.heap.objs.size + 2 ∨ c = s1.heap.objs.size + 3 ∨ c = s1.heap.objs.size ∨ c = s1.heap.objs.size + 1 := by simpa using hcm
        rcases this with z | z | z | z | z <;> rw [z]
        · exact Nat.le_add_right _ 4
        · exact Nat.le_add_right _ 2
        · exact Nat.le_add_right _ 3
        · exact Nat.le_refl _
        · exact Nat.le_add_right _ 1
      exact I1.fpOk hle
            (I1.hok.fresh hle)
theorem walk_zipM {K : PySem.W.Frag} {a b : Addr} {xs ys : List V} {n : Nat} (hn : n = min xs.length ys.length) : Walk (ItM K a b) n (fun H => SqT K H a xs ∧ SqL K H b ys) (YPair (fun i => xs[i]?) (fun i => ys[i]?)) := by
  subst hn
  refine ⟨fun i _ hi q => ?_, fun _ q => ⟨xs, ys, q.1, q.2, by omega, by omega, by omega⟩, fun i H v H' _ q y => ?_⟩
  · exact ⟨xs, ys, xs[i]'(by omega), ys[i]'(by omega), q.1, q.2, List.getElem?_eq_getElem (by omega), List.getElem?_eq_getElem (by omega)⟩
  · obtain ⟨T, x, z, h1,
          h2, h3, h4, h5⟩ := y
    exact ⟨T, x, z, h1, h2,
          h3, h4 xs q.1, h5 ys q.2⟩
section
variable {S : SC} {α β : Type} {ds : List Slot} {a b : Expr} {enc : α → PyData} {enc2 : β → PyData} {items : List α} {ys : List β} {p pos : Pos} {j1 j2 : Nat}
theorem jw_zipM {elts : List Expr} {kk : Nat} {tpos : Pos} (ha : JE S ds a (tupE enc items)) (hb : JE S ds b (lstE enc2 ys)) (hm : S.mg ("zip" : Str) = none) (hg : S.scope.names.lookup ("zip" : Str) = some .globalImplicit := by rfl)
    (he : ∀ env, starEach [a, b] env = (false, eval a env) :: starEach [b] env := by intro _; rfl) (he2 : ∀ env, starEach [b] env = (false, eval b env) :: starEach [] env := by intro _; rfl)
    (hpl : ∀ env, (backTo pos (starEach [b] env)).any (·.1) = false := by intro _; rfl) :
    JW S ds (.Tuple elts kk tpos) (.Call (.Name "zip" p) [a, b] [] pos) (g2 S.K j1 j2) [j1, j2] (items.zip ys) (fun q => [enc q.1, enc2 q.2]) := by
  intro O σ H st R k
  refine ⟨iZipM S.K (taOf S [a, b]), fun X h => by rw [← h.K]; exact pi_zipM (gl_of h hg) (h.mg ▸ hm) (pa_taOf h) (he _) (hpl _), ?_⟩
  refine ja_cons ha (ja_cons hb ja_nil he2) he O σ H st _ fun vs H1 e1 r1 => ?_
  obtain ⟨va, vb, rfl, ra, rb⟩ := r1.two
  cases ra with
  | @tup q vs _ h rs =>
    cases rb with
    | @lst q2 vs2 _ h2 rs2 =>
      have l1 : vs.length = items.length := by rw [rs.len, List.length_map]
      have l2 : vs2.length = ys.length := by rw [rs2.len, List.length_map]
      refine ⟨q, q2, vs, vs2, rfl, SqT.of (hide_sub _ _ h), SqL.of (hide_sub _ _ h2), k _ H1 (fun H => H q = some (.tup vs) ∧ H q2 = some (.lst vs2)) (YPair (fun i => vs[i]?) (fun i => vs2[i]?)) e1 ?_ (fun H2 s => ⟨hide_sub _ _ (s _ _ h), hide_sub _ _ (s _ _ h2)⟩) ?_⟩
      · rw [List.length_zip, ← l1, ← l2]
        exact (walk_zipM rfl).mono (fun H h => ⟨SqT.of h.1, SqL.of h.2⟩) fun _ _ _ _ _ _ y => y
      · rintro i ⟨u, w⟩ H2 x H3 σ' Q hi hG ⟨T, x1, y1, rfl, hT, rfl, hx1, hy1⟩ kk2
        rw [List.getElem?_zip_eq_some] at hi
        obtain ⟨v, hv, rv⟩ := rs.get (i := i) (d := enc u) (by rw [List.getElem?_map, hi.1]; rfl)
        obtain ⟨v2, hv2, rv2⟩ := rs2.get (i := i) (d := enc2 w) (by rw [List.getElem?_map, hi.2]; rfl)
        have hv := (show vs[i]? = some x1 from hx1).symm.trans hv
        have hv2 := (show vs2[i]? = some y1 from hy1).symm.trans hv2
        cases hv; cases hv2
        exact g2_run (SqT.of upd_same) (kk2 [x1, y1] (Same.upd_new hT) (.cons rv (.cons rv2 .nil)))
end
end Sh


set_option Elab.async false
set_option linter.all false
set_option maxRecDepth 100000
set_option maxHeartbeats 40000000
set_option autoImplicit false
/-! J16: two at once, one of them an own list; four at once -/
namespace Sh
open PySem PySem.Spec
      PyProof.Rows L2
section
variable {S : SC} {m : Bool} {ds : List Slot} {a b c e : Expr} {rest : List Stmt} {x y z d : PyData} {xs ys : List PyData} {pos p p1 p2 pt : Pos} {D : DEnds} {i j n : Nat} {t u : Str}
/-- a value, and a new list -/
theorem js_parEN {ke k2 : Nat} (ha : JE S ds a x) (hb : JN S ds b xs) (k : JS S m rest ((ds.set i (.val x)).set j (.own xs)) D) (hi : S.N[i]? = some t := by rfl) (hj : S.N[j]? = some u := by rfl) (hij : i ≠ j := by decide)
    (hx : S.scope.names.lookup t = some .local := by rfl) (hy : S.scope.names.lookup u = some .local := by rfl) (hw : swappedStores [.Tuple [.Name t p1, .Name u p2] ke pt] (.Tuple [a, b] k2 p) (envS S.scope) = pure (some [t, u]) := by rfl)
    (s1 : ∀ env, starEach [a, b] env = (false, eval a env) :: starEach [b] env := by intro _; rfl) (s2 : ∀ env, starEach [b] env = (false, eval b env) :: starEach [] env := by intro _; rfl) :
    JS S m (.Assign [.Tuple [.Name t p1, .Name u p2] ke pt] (.Tuple [a, b] k2 p) pos :: rest) ds D := by
  intro Oe Fz O H σ s E hE
  refine ts_cons (ts := tPar i j (tCons (teOf S a) (tCons (teOf S b) tNil))) (fun X h => ps_par h.calm (h.N ▸ h.nd) (h.N ▸ hi) (h.N ▸ hj) hij (by rw [h.scope]; exact hx) (by rw [h.scope]; exact hy) (pa_cons (pe_teOf h) (pa_cons (pe_teOf h) pa_nil (s2 _)) (s1 _)) ((swapped_env h.scope).trans hw)) ?_
  refine ha O σ H s.st _ fun v H1 e1 r1 => ?_
  refine hb O σ H1 (s.st.mono e1) _ fun q vs H2 hq e2 h2 r2 => ?_
  exact ⟨v, _, rfl, k Oe Fz _ H2 _ (((s.mono e1).set r1).newOwn hq e2 h2 r2) E hE⟩
/-- a new list, and a value -/
theorem js_parNE {ke k2 : Nat} (ha : JN S ds a xs) (hb : JE S ds b y) (k : JS S m rest ((ds.set i (.own xs)).set j (.val y)) D) (hi : S.N[i]? = some t := by rfl) (hj : S.N[j]? = some u := by rfl) (hij : i ≠ j := by decide)
    (hx : S.scope.names.lookup t = some .local := by rfl) (hy : S.scope.names.lookup u = some .local := by rfl) (hw : swappedStores [.Tuple [.Name t p1, .Name u p2] ke pt] (.Tuple [a, b] k2 p) (envS S.scope) = pure (some [t, u]) := by rfl)
    (s1 : ∀ env, starEach [a, b] env = (false, eval a env) :: starEach [b] env := by intro _; rfl) (s2 : ∀ env, starEach [b] env = (false, eval b env) :: starEach [] env := by intro _; rfl) :
    JS S m (.Assign [.Tuple [.Name t p1, .Name u p2] ke pt] (.Tuple [a, b] k2 p) pos :: rest) ds D := by
  intro Oe Fz O H σ s E hE
  refine ts_cons (ts := tPar i j (tCons (teOf S a) (tCons (teOf S b) tNil))) (fun X h => ps_par h.calm (h.N ▸ h.nd) (h.N ▸ hi) (h.N ▸ hj) hij (by rw [h.scope]; exact hx) (by rw [h.scope]; exact hy) (pa_cons (pe_teOf h) (pa_cons (pe_teOf h) pa_nil (s2 _)) (s1 _)) ((swapped_env h.scope).trans hw)) ?_
  refine ha O σ H s.st _ fun q vs H1 hq e1 h1 r1 => ?_
  refine hb (q :: O) σ H1 (s.st.hideMore hq e1 (by rw [h1]; simp)) _ fun v H2 e2 r2 => ?_
  exact ⟨_, v, rfl, k Oe Fz (q :: O) H2 _ (((s.newOwn hq e1 h1 r1).mono e2).set r2) E hE⟩
end
end Sh


set_option Elab.async false
set_option linter.all false
set_option maxRecDepth 100000
set_option maxHeartbeats 40000000
set_option autoImplicit false
/-! J17: the dict of the feed, read and written within _law_draw -/
namespace Sh
open PySem PySem.Spec
      PyProof.Rows L2
/-! ### d[key] of a told dict -/
def dkAt (kvs : List (Key × PyData)) (k : Key) : Option PyData := (kvs.find? fun kv => decide (kv.1 = k)).map (·.2)
theorem dk_val {H : Hp} {k : Key} {d : PyData} : ∀ {ws : List (Key × V)} {kvs : List (Key × PyData)}, ws.map (·.1) = kvs.map (·.1) → RpAll H (ws.map (·.2)) (kvs.map (·.2)) → dkAt kvs k = some d → ∃ v, valV ws k = some v ∧ Rp H v d
  | [], [], _, _, h => by cases h
  | [], _ :: _, h, _, _ => by simp at h
  | _ :: _, [], h, _, _ => by simp at h
  | p :: ws, q :: kvs, h, r, e => by
    rw [List.map_cons, List.map_cons] at h r
    injection h with h1 h2
    cases r with
    | cons r rs =>
      by_cases z : p.1 = k
      · refine ⟨p.2, valV_pos z, ?_⟩
        unfold dkAt at e
        rw [List.find?_cons, decide_eq_true (h1.symm.trans z)] at e
        cases e
        exact r
      · rw [valV_neg z]
        refine dk_val h2 rs ?_
        unfold dkAt at e ⊢
        rw [List.find?_cons, decide_eq_false (fun y => z (h1.trans y))] at e
        exact e
section
variable {S : SC} {ds : List Slot} {d : PyData} {pos p p' p1 : Pos} {n : Nat} {t s : Str}
theorem je_dkey {kvs : List (Key × PyData)} {m : Nat} (hi : ds[n]? = some (.dkv kvs)) (h : dkAt kvs (.inr s) = some d) (hN : S.N[n]? = some t := by rfl)
    (hv : Vis S.scope t := by first | exact Or.inl rfl | exact Or.inr (Or.inl rfl) | exact Or.inr (Or.inr rfl)) (h1 : (t == ("__debug__" : Str)) = false := by decide) (h2 : (t == ("__classdict__" : Str)) = false := by decide) :
    JE S ds (.Subscript (.Name t p) (.Constant (.str s) m p') pos) d := by
  intro O σ H st Q kq
  obtain ⟨x, q1, a, ws, rfl, q2, q3, q4⟩ := st.sl n _ hi
  obtain ⟨v, e1, e2⟩ := dk_val q3 q4 h
  refine te_mk (t := tDGet (tVar n) (tC (.str s))) (fun X h => pe_dget (by have := h.room.units; omega) (pe_var (i := n) (h.N ▸ hN) (h.scope ▸ hv) h1 h2) pe_str (fun _ _ => rfl)) ?_
  exact ⟨_, q1, a, v, rfl, e1 ▸ DGet.k (k := .inr s) (hide_sub _ _ q2), kq v H (Same.refl H) e2⟩
end
/-! ### within _law_draw -/
def fdkv (cs : PyData) (n l t : Int) : List (Key × PyData) := [(.inr "cells", cs), (.inr "next", .int n), (.inr "left", .int l), (.inr "turn", .int t)]
def flatS : Slot → Bool
  | .unk => true
  | .val _ => true
  | _ => false
structure DS (fa : FA) (c : Addr) (cells : List Int) (Fz : Hp) (O : List Addr) (H : Hp) (σ : L2.St) (n l t : Int) (rs : List Slot) : Prop where
  st : StOk fa O H σ (.dkv (fdkv (lI cells) n l t) :: rs)
  fl : rs.all flatS = true
  ad : σ[0]? = some (some (.ref fa.ad))
  out : fa.ad ∉ O
  dk : H fa.ad = some (.dK (feedKvs c n l t))
  ce : hide O H c = some (.lst (cells.map V.int))
  kp : ∀ b o, b ≠ fa.ad → Fz b = some o → H b = some o
  n0 : 0 ≤ n
  l0 : 0 ≤ l
/-- the end: the dict stands again -/
def DE (fa : FA) (c : Addr) (Fz : Hp) (E : Ends) (P : Int → Prop) : Prop :=
  ∀ (i : Int) (H : Hp) (n l t : Int), 0 ≤ n → 0 ≤ l → H fa.ad = some (.dK (feedKvs c n l t)) → (∀ b o, b ≠ fa.ad → Fz b = some o → H b = some o) → P i → E.rt (.int i) H
def JD (S : SC) (cells : List Int) (n l t : Int) (sts : List Stmt) (rs : List Slot) (P : Int → Prop) : Prop :=
  ∀ (c : Addr) (Fz : Hp) (O : List Addr) (H : Hp) (σ : L2.St), DS S.fa c cells Fz O H σ n l t rs → ∀ E : Ends, DE S.fa c Fz E P → tsOf S sts E σ H
mutual
theorem Rp.only {H H' : Hp} (e : ∀ a vs, (H a = some (.lst vs) → H' a = some (.lst vs)) ∧ (H a = some (.tup vs) → H' a = some (.tup vs))) : ∀ {v : V} {d : PyData}, Rp H v d → Rp H' v d
  | _, _, .non => .non
  | _, _, .bl b => .bl b
  | _, _, .int i => .int i
  | _, _, .str x => .str x
  | _, _, .lst h r => .lst ((e _ _).1 h) (RpAll.only e r)
  | _, _, .tup h r => .tup ((e _ _).2 h) (RpAll.only e r)
theorem RpAll.only {H H' : Hp} (e : ∀ a vs, (H a = some (.lst vs) → H' a = some (.lst vs)) ∧ (H a = some (.tup vs) → H' a = some (.tup vs))) : ∀ {vs : List V} {ds : List PyData}, RpAll H vs ds → RpAll H' vs ds
  | _, _, .nil => .nil
  | _, _, .cons r rs => .cons (Rp.only e r) (RpAll.only e rs)
end
section
variable {fa : FA} {c : Addr} {cells : List Int} {Fz H H' : Hp} {O : List Addr} {σ : L2.St} {n l t n' l' t' : Int} {rs : List Slot}
theorem DS.mono (s : DS fa c cells Fz O H σ n l t rs) (e : Same H H') : DS fa c cells Fz O H' σ n l t rs :=
  ⟨s.st.mono e, s.fl, s.ad, s.out, e _ _ s.dk, hide_same e _ _ s.ce, fun b o h q => e _ _ (s.kp b o h q), s.n0, s.l0⟩
theorem feed_slot {H : Hp} {O : List Addr} (ad : Addr) (o : ad ∉ O) (h : H ad = some (.dK (feedKvs c n l t))) (ce : hide O H c = some (.lst (cells.map V.int))) : SlotOk fa O H (some (.ref ad)) (.dkv (fdkv (lI cells) n l t)) :=
  ⟨ad, feedKvs c n l t, rfl, by rw [hide_out o]; exact h, rfl, .cons (.lst ce (RpAll.of_ints cells)) (.cons (.int n) (.cons (.int l) (.cons (.int t) .nil)))⟩
/-- the dict is written -/
theorem DS.write (s : DS fa c cells Fz O H σ n l t rs) (hn : 0 ≤ n') (hl : 0 ≤ l') : DS fa c cells Fz O (upd H fa.ad (.dK (feedKvs c n' l' t'))) σ n' l' t' rs := by
  have dkO : ∀ a vs, (H a = some (.lst vs) → a ≠ fa.ad) ∧ (H a = some (.tup vs) → a ≠ fa.ad) := fun a vs => ⟨fun h z => (by rw [z, s.dk] at h; cases h), fun h z => (by rw [z, s.dk] at h; cases h)⟩
  have only : ∀ a vs, (hide O H a = some (.lst vs) → hide O (upd H fa.ad (.dK (feedKvs c n' l' t'))) a = some (.lst vs)) ∧ (hide O H a = some (.tup vs) → hide O (upd H fa.ad (.dK (feedKvs c n' l' t'))) a = some (.tup vs)) := fun a vs =>
    ⟨fun h => (by obtain ⟨h1, h2⟩ := hide_some h; rw [hide_out h1, upd_ne ((dkO a vs).1 h2)]; exact h2), fun h => (by obtain ⟨h1, h2⟩ := hide_some h; rw [hide_out h1, upd_ne ((dkO a vs).2 h2)]; exact h2)⟩
  have ce := (only _ _).1 s.ce
  have dk : (upd H fa.ad (.dK (feedKvs c n' l' t'))) fa.ad = some (.dK (feedKvs c n' l' t')) := upd_same
  refine ⟨⟨s.st.len, fun i sl q => ?_, fun i j xs ys l q1 => ?_, fun a ha => ?_⟩, s.fl, s.ad, s.out, dk, ce, fun b o h q => ?_, hn, hl⟩
  · cases i with
    | zero =>
      cases q
      exact ⟨_, s.ad, feed_slot fa.ad s.out dk ce⟩
    | succ i =>
      obtain ⟨x, q1, q2⟩ := s.st.sl (i + 1) sl q
      refine ⟨x, q1, ?_⟩
      have f := List.all_eq_true.mp s.fl sl (List.mem_of_getElem? (show rs[i]? = some sl from q))
      cases sl with
      | unk => trivial
      | val d => obtain ⟨v, h1, h2⟩ := q2; exact ⟨v, h1, h2.only only⟩
      | own _ => cases f
      | fd => cases f
      | dct _ => cases f
      | dkv _ => cases f
  · cases i with
    | zero => cases q1
    | succ i =>
      have f := List.all_eq_true.mp s.fl _ (List.mem_of_getElem? (show rs[i]? = some (Slot.own xs) from q1))
      cases f
  · by_cases z : a = fa.ad
    · exact absurd (z ▸ ha) s.out
    · rw [upd_ne z]; exact s.st.dom a ha
  · rw [upd_ne h]; exact s.kp b o h q
theorem flat_set : ∀ {rs : List Slot} {i : Nat} {d : PyData}, rs.all flatS = true → (rs.set i (.val d)).all flatS = true
  | [], _, _, h => h
  | s :: rs, 0, d, h => by
    rw [List.all_cons,
          Bool.and_eq_true] at h
    rw [List.set_cons_zero, List.all_cons, h.2]
    rfl
  | s :: rs, i + 1, d, h => by
    rw [List.all_cons,
          Bool.and_eq_true] at h
    rw [List.set_cons_succ, List.all_cons, h.1, flat_set h.2]
    rfl
end
section
variable {S : SC} {cells : List Int} {n l t z : Int} {rs : List Slot} {P : Int → Prop} {e cnd : Expr} {d : PyData} {pos p p' p1 p2 : Pos} {rest B1 : List Stmt} {x k : Str} {i m : Nat} {b : Bool}
theorem putFeed_turn {c : Addr} {n l t z : Int} : putK (feedKvs c n l t) (.inr "turn") (.int z) = feedKvs c n l z := by rfl
theorem putFeed_left {c : Addr} {n l t z : Int} : putK (feedKvs c n l t) (.inr "left") (.int z) = feedKvs c n z t := by rfl
theorem putFeed_next {c : Addr} {n l t z : Int} : putK (feedKvs c n l t) (.inr "next") (.int z) = feedKvs c z l t := by rfl
theorem jd_putR {n' l' t' : Int} (he : JE S (.dkv (fdkv (lI cells) n l t) :: rs) e (.int z)) (hp : ∀ c, putK (feedKvs c n l t) (.inr k) (.int z) = feedKvs c n' l' t') (hn : 0 ≤ n') (hl : 0 ≤ l') (kk : JD S cells n' l' t' rest rs P) (hN : S.N[0]? = some x := by rfl)
    (hv : Vis S.scope x := by first | exact Or.inl rfl | exact Or.inr (Or.inl rfl) | exact Or.inr (Or.inr rfl)) (h1 : (x == ("__debug__" : Str)) = false := by decide) (h2 : (x == ("__classdict__" : Str)) = false := by decide)
    (hs : ∀ env, swapsWith e (some (.Subscript (.Name x p) (.Constant (.str k) m p') p1)) pos.line env = pure false := by intro _; rfl) : JD S cells n l t (.Assign [.Subscript (.Name x p) (.Constant (.str k) m p') p1] e pos :: rest) rs P := by
  intro c Fz O H σ s E hE
  refine ts_cons (ts := sDPut (tVar 0) (tC (.str k)) (teOf S e)) (fun X h => ps_dput (by have := h.room.units; omega) (pe_var (i := 0) (h.N ▸ hN) (h.scope ▸ hv) h1 h2) pe_str (pe_teOf h) (hs _)) ?_
  refine he O σ H s.st _ fun v H1 e1 r1 => ?_
  cases r1
  have s1 := s.mono e1
  refine ⟨_, s.ad, S.fa.ad, _, rfl, DPut.k (k := .inr k) s1.dk (by rw [sizeLine_eq]; show 4 < _; decide), ?_⟩
  rw [hp]
  exact kk c Fz O _ σ (s1.write hn hl) E hE
theorem jd_asg (he : JE S (.dkv (fdkv (lI cells) n l t) :: rs) e d) (kk : JD S cells n l t rest (rs.set i (.val d)) P) (hN : S.N[i + 1]? = some x := by rfl) (hx : Loc S.scope x := by first | exact Or.inl rfl | exact Or.inr rfl) (hf : S.fn x = true ∨ S.scope.names.lookup x = some .local := by first | exact Or.inl rfl | exact Or.inr rfl)
    (hs : ∀ env : Env, env.scope = S.scope → swapsWith e (some (.Name x p')) pos.line env = pure false := by intro _ _; rfl) : JD S cells n l t (.Assign [.Name x p'] e pos :: rest) rs P := by
  intro c Fz O H σ s E hE
  refine ts_cons (fun X h => ps_set (h.N ▸ h.nd) (h.N ▸ hN) (h.scope ▸ hx) (pe_teOf h) (hs _ h.scope) (by rw [h.fn, h.scope]; exact hf)) ?_
  refine he O σ H s.st _ fun v H1 e1 r1 => ?_
  have s1 := s.mono e1
  refine kk c Fz O H1 _ ⟨s1.st.set (i := i + 1) r1, flat_set s1.fl, ?_, s1.out, s1.dk, s1.ce, s1.kp, s1.n0, s1.l0⟩ E hE
  rw [List.getElem?_set_ne (by omega)]
  exact s1.ad
theorem jd_if (hc : JT S (.dkv (fdkv (lI cells) n l t) :: rs) cnd b) (h1 : b = true → JD S cells n l t B1 rs P) (h2 : b = false → JD S cells n l t rest rs P) : JD S cells n l t (.If cnd B1 [] pos :: rest) rs P := by
  intro c Fz O H σ s E hE
  refine ts_cons (fun X h => ps_if (pt_ttOf h) (pss_tsOf h) (pss_tsOf h)) ?_
  refine hc O σ H s.st _ fun H1 e1 => ?_
  cases b with
  | true => exact iteT (h1 rfl c Fz O H1 σ (s.mono e1) _ hE)
  | false => exact iteF (ts_mk (fun X _ => pss_nil) (h2 rfl c Fz O H1 σ (s.mono e1) E hE))
theorem jd_ret (he : JE S (.dkv (fdkv (lI cells) n l t) :: rs) e (.int z)) (h : P z) : JD S cells n l t (.Return (some e) pos :: rest) rs P := by
  intro c Fz O H σ s E hE
  refine ts_cons (ts := tRet (teOf S e)) (fun X h => ps_ret (pe_teOf h)) ?_
  refine he O σ H s.st _ fun v H1 e1 r1 => ?_
  cases r1
  have s1 := s.mono e1
  exact hE z H1 n l t s1.n0 s1.l0 s1.dk s1.kp h
end
end Sh


set_option Elab.async false
set_option linter.all false
set_option maxRecDepth 100000
set_option maxHeartbeats 40000000
set_option autoImplicit false
/-! M1: what the defs compute, in plain lists -/
namespace Sh
open PySem
/-! ### words -/
/-- n digits of [0, p) -/
def Wd (p : Int) (n : Nat) (ws : List Int) : Prop := ws.length = n ∧ ∀ x ∈ ws, 0 ≤ x ∧ x < p
def lead (ws : List Int) : Option Nat := ws.findIdx? fun x => decide (x ≠ 0)
def leadD (ws : List Int) : PyData := match lead ws with
  | none => .none
  | some i => .int (i : Nat)
def gI (ws : List Int) (i : Nat) : Int := ws.getD i 0
/-- the first digit that is not 0 -/
def ldg (ws : List Int) : Nat := (lead ws).getD 0
def isP (p : Int) : Prop := p = 2 ∨ p = 3 ∨ p = 5 ∨ p = 7 ∨ p = 13
def invI (p d : Int) : Int := ((rangeI 1 p).filter fun one => decide (one * d % p = 1)).headD 0
def timesI (p d : Int) (ws : List Int) : List Int := ws.map fun one => one * d % p
def addI (p : Int) (a b : List Int) : List Int := (a.zip b).map fun q => if p ≤ q.1 + q.2 then q.1 + q.2 - p else q.1 + q.2
def lessI (p : Int) (ws : List Int) (d : Int) (rs : List Int) : List Int := (ws.zip rs).map fun q => (q.1 - d * q.2) % p
def restI (p : Int) (rows : List (List Int)) (ws : List Int) : List Int := rows.foldl (fun rest row => lessI p rest (gI rest (ldg row)) row) ws
def ledI (p : Int) (ws : List Int) : List Int := timesI p (invI p (gI ws (ldg ws))) ws
def stepI (p : Int) (rows : List (List Int)) (word : List Int) : List (List Int) :=
  let rest := restI p rows word
  match lead rest with
  | none => rows
  | some _ =>
    let row := ledI p rest
    (rows.map fun one => lessI p one (gI one (ldg row)) row) ++ [row]
def gaussI (p : Int) (words : List (List Int)) : List (List Int) := words.foldl (stepI p) []
def reducedI (p : Int) (words : List (List Int)) : List (List Int) := (sortC p (gaussI p words)).reverse
def unitI (many : Nat) (k : Int) : List Int := (List.range many).map fun j : Nat => if (j : Int) = k then 1 else 0
section
variable {p : Int} {n m : Nat} {ws vs rs : List Int} {rows words : List (List Int)} {d : Int}
theorem isP.two (h : isP p) : 2 ≤ p := by unfold isP at h; omega
theorem isP.le (h : isP p) : p ≤ 13 := by unfold isP at h; omega
theorem Wd.get (h : Wd p n ws) {i : Nat} (hi : i < n) (hp : 0 < p) : 0 ≤ gI ws i ∧ gI ws i < p := by
  have hl : i < ws.length := by rw [h.1]; exact hi
  have e : gI ws i = ws[i] := by unfold gI; rw [List.getD_eq_getElem?_getD, List.getElem?_eq_getElem hl]; rfl
  rw [e]
  exact h.2 _ (List.getElem_mem hl)
theorem gI_get {i : Nat} (hi : i < ws.length) : ws[i]? = some (gI ws i) := by
  unfold gI
  rw [List.getD_eq_getElem?_getD,
        List.getElem?_eq_getElem hi]
  rfl
theorem lead_some {i : Nat} (h : lead ws = some i) : i < ws.length ∧ gI ws i ≠ 0 ∧ ∀ j < i, gI ws j = 0 := by
  unfold lead at h
  obtain ⟨h1, h2, h3⟩ := List.findIdx?_eq_some_iff_getElem.mp h
  refine ⟨h1, ?_, fun j hj => ?_⟩
  · have := of_decide_eq_true h2
    have e := gI_get h1
    rw [List.getElem?_eq_getElem h1] at e
    rw [← Option.some.inj e]
    exact this
  · have hj' : j < ws.length := by omega
    have := h3 j hj
    have e := gI_get hj'
    rw [List.getElem?_eq_getElem hj'] at e
    rw [← Option.some.inj e]
    simpa using this
theorem lead_none (h : lead ws = none) (j : Nat) : gI ws j = 0 := by
  unfold lead at h
  by_cases hj : j < ws.length
  · have := List.findIdx?_eq_none_iff.mp h ws[j] (List.getElem_mem hj)
    have e := gI_get hj
    rw [List.getElem?_eq_getElem hj] at e
    rw [← Option.some.inj e]
    simpa using this
  · unfold gI
    rw [List.getD_eq_getElem?_getD,
          List.getElem?_eq_none (by omega)]
    rfl
theorem lead_of_first {i : Nat} (hi : i < ws.length) (h1 : gI ws i ≠ 0) (h2 : ∀ j < i, gI ws j = 0) : lead ws = some i := by
  cases h : lead ws with
  | none => exact absurd (lead_none h i) h1
  | some j =>
    obtain ⟨a, b, c⟩ := lead_some h
    rcases Nat.lt_trichotomy i j with q | q | q
    · exact absurd (c i q) h1
    · rw [q]
    · exact absurd (h2 j q) b
theorem lead_of_zero (h : ∀ j < ws.length, gI ws j = 0) : lead ws = none := by
  cases q : lead ws with
  | none => rfl
  | some j =>
    obtain ⟨a, b, c⟩ := lead_some q
    exact absurd (h j a) b
theorem leadD_some {i : Nat} (h : lead ws = some i) : leadD ws = .int (i : Nat) := by unfold leadD; rw [h]
theorem leadD_none (h : lead ws = none) : leadD ws = .none := by unfold leadD; rw [h]
theorem ldg_some {i : Nat} (h : lead ws = some i) : ldg ws = i := by unfold ldg; rw [h]; rfl
theorem modLt (hp : 0 < p) (x : Int) : 0 ≤ x % p ∧ x % p < p := ⟨Int.emod_nonneg _ (by omega), Int.emod_lt_of_pos _ hp⟩
theorem Wd.times (hp : 0 < p) (h : ws.length = n) : Wd p n (timesI p d ws) := by
  refine ⟨by unfold timesI; rw [List.length_map, h], fun x hx => ?_⟩
  obtain ⟨y, _, rfl⟩ := List.mem_map.mp hx
  exact modLt hp _
theorem Wd.less (hp : 0 < p) (h : ws.length = n) (h2 : rs.length = n) : Wd p n (lessI p ws d rs) := by
  refine ⟨by unfold lessI; rw [List.length_map, List.length_zip, h, h2, Nat.min_self], fun x hx => ?_⟩
  obtain ⟨y, _, rfl⟩ := List.mem_map.mp hx
  exact modLt hp _
theorem gI_less {i : Nat} (h : ws.length = n) (h2 : rs.length = n) (hi : i < n) : gI (lessI p ws d rs) i = (gI ws i - d * gI rs i) % p := by
  have e1 := gI_get (ws := ws) (i := i) (by omega)
  have e2 := gI_get (ws := rs) (i := i) (by omega)
  unfold gI lessI at *
  rw [List.getD_eq_getElem?_getD, List.getElem?_map]
  have : (ws.zip rs)[i]? = some (ws.getD i 0, rs.getD i 0) := List.getElem?_zip_eq_some.mpr ⟨e1, e2⟩
  rw [this]
  rfl
theorem gI_times {i : Nat} (hi : i < ws.length) : gI (timesI p d ws) i = gI ws i * d % p := by
  have e1 := gI_get hi
  unfold gI timesI at *
  rw [List.getD_eq_getElem?_getD, List.getElem?_map, e1]
  rfl
end
end Sh


set_option Elab.async false
set_option linter.all false
set_option maxRecDepth 100000
set_option maxHeartbeats 40000000
set_option autoImplicit false
/-! M2: words mod p, spans, rows with leads -/
namespace Sh
/-! ### congruence -/
def Cg (p a b : Int) : Prop := p ∣ a - b
section
variable {p a b c d x y : Int}
theorem Cg.refl (a : Int) : Cg p a a := ⟨0, by omega⟩
theorem Cg.of (h : a = b) : Cg p a b := by rw [h]; exact .refl b
theorem Cg.symm (h : Cg p a b) : Cg p b a := by obtain ⟨k, hk⟩ := h; exact ⟨-k, by grind⟩
theorem Cg.trans (h : Cg p a b) (h2 : Cg p b c) : Cg p a c := by obtain ⟨k, hk⟩ := h; obtain ⟨l, hl⟩ := h2; exact ⟨k + l, by grind⟩
theorem Cg.add (h : Cg p a b) (h2 : Cg p c d) : Cg p (a + c) (b + d) := by obtain ⟨k, hk⟩ := h; obtain ⟨l, hl⟩ := h2; exact ⟨k + l, by grind⟩
theorem Cg.sub (h : Cg p a b) (h2 : Cg p c d) : Cg p (a - c) (b - d) := by obtain ⟨k, hk⟩ := h; obtain ⟨l, hl⟩ := h2; exact ⟨k - l, by grind⟩
theorem Cg.mul (h : Cg p a b) (h2 : Cg p c d) : Cg p (a * c) (b * d) := by obtain ⟨k, hk⟩ := h; obtain ⟨l, hl⟩ := h2; exact ⟨k * c + b * l, by grind⟩
theorem Cg.neg (h : Cg p a b) : Cg p (-a) (-b) := by obtain ⟨k, hk⟩ := h; exact ⟨-k, by grind⟩
theorem Cg.mod (a : Int) : Cg p (a % p) a := by
  have := Int.mul_ediv_add_emod a p
  exact ⟨-(a / p), by grind⟩
theorem Cg.eq (h : Cg p a b) (ha : 0 ≤ a ∧ a < p) (hb : 0 ≤ b ∧ b < p) : a = b := by
  obtain ⟨k, hk⟩ := h
  have h1 : k = 0 := by
    rcases Int.lt_trichotomy k 0 with q | q | q
    · have : p * k ≤ p * (-1) := Int.mul_le_mul_of_nonneg_left (by omega) (by omega)
      omega
    · exact q
    · have : p * 1 ≤ p * k := Int.mul_le_mul_of_nonneg_left (by omega) (by omega)
      omega
  subst h1
  omega
theorem Cg.zero (h : Cg p a 0) (ha : 0 ≤ a ∧ a < p) : a = 0 := h.eq ha (by omega)
theorem Cg.mod_iff : Cg p a b ↔ a % p = b % p := by
  constructor
  · intro h
    obtain ⟨k, hk⟩ := h
    rw [show a = b + p * k by omega, Int.add_mul_emod_self_left]
  · intro h
    exact (Cg.mod a).symm.trans ((Cg.of h).trans (Cg.mod b))
end
/-! ### inverses -/
theorem inv_ex {p d : Int} (hp : isP p) (h0 : 0 < d) (h1 : d < p) : ∃ x, 1 ≤ x ∧ x < p ∧ x * d % p = 1 := by
  have key : ∀ q ∈ [2, 3, 5, 7, 13], ∀ e, e < q → 0 < e → ∃ x, x < q ∧ 1 ≤ x ∧ x * e % q = 1 := by decide
  have hm : p.toNat ∈ [2, 3, 5, 7, 13] := by
    rcases hp with h | h | h | h | h <;> subst h <;> decide
  have hp2 := hp.two
  obtain ⟨x, a, b, c⟩ := key p.toNat hm d.toNat (by omega) (by omega)
  refine ⟨x, by omega, by omega, ?_⟩
  have e : ((x * d.toNat % p.toNat : Nat) : Int) = 1 := by rw [c]; rfl
  have e1 : ((d.toNat : Nat) : Int) = d := by omega
  have e2 : ((p.toNat : Nat) : Int) = p := by omega
  rw [Int.natCast_emod, Int.natCast_mul, e1, e2] at e
  exact e
theorem invI_spec {p d : Int} (hp : isP p) (h0 : 0 < d) (h1 : d < p) : 1 ≤ invI p d ∧ invI p d < p ∧ invI p d * d % p = 1 := by
  obtain ⟨x, a, b, c⟩ := inv_ex hp h0 h1
  have hm : x ∈ (rangeI 1 p).filter fun one => decide (one * d % p = 1) := List.mem_filter.mpr ⟨mem_rangeI.mpr ⟨a, b⟩, decide_eq_true c⟩
  unfold invI
  cases h : (rangeI 1 p).filter fun one => decide (one * d % p = 1) with
  | nil => rw [h] at hm; cases hm
  | cons y l =>
    have hy : y ∈ (rangeI 1 p).filter fun one => decide (one * d % p = 1) := by rw [h]; exact List.mem_cons_self
    obtain ⟨q1, q2⟩ := List.mem_filter.mp hy
    obtain ⟨q3, q4⟩ := mem_rangeI.mp q1
    exact ⟨q3, q4, of_decide_eq_true q2⟩
/-! ### spans -/
abbrev Vec := Nat → Int
/-- what the rows span, mod p -/
inductive Span (p : Int) (rows : List (List Int)) : Vec → Prop
  | zero {v : Vec} : (∀ i, Cg p (v i) 0) → Span p rows v
  | step {u v : Vec} {r : List Int} (c : Int) : r ∈ rows → Span p rows u → (∀ i, Cg p (v i) (u i + c * gI r i)) → Span p rows v
section
variable {p : Int} {rows rows' : List (List Int)} {u v w : Vec} {r : List Int}
theorem Span.cg (h : Span p rows u) (e : ∀ i, Cg p (v i) (u i)) : Span p rows v := by
  cases h with
  | zero h => exact .zero fun i => (e i).trans (h i)
  | step c hr h q => exact .step c hr h fun i => (e i).trans (q i)
theorem Span.mem (h : r ∈ rows) : Span p rows (gI r) := .step 1 h (.zero (v := fun _ => 0) fun i => .refl 0) fun i => .of (by omega)
theorem Span.add (hu : Span p rows u) (hv : Span p rows v) : Span p rows fun i => u i + v i := by
  induction hv with
  | zero h => exact hu.cg fun i => ((Cg.refl _).add (h i)).trans (.of (by omega))
  | step c hr _ q ih => exact .step c hr ih fun i => ((Cg.refl _).add (q i)).trans (.of (by omega))
theorem Span.smul (c : Int) (hu : Span p rows u) : Span p rows fun i => c * u i := by
  induction hu with
  | zero h => exact .zero fun i => ((Cg.refl c).mul (h i)).trans (.of (by omega))
  | step d hr _ q ih => exact .step (c * d) hr ih fun i => ((Cg.refl c).mul (q i)).trans (.of (by grind))
theorem Span.sub (hu : Span p rows u) (hv : Span p rows v) : Span p rows fun i => u i - v i := (hu.add (hv.smul (-1))).cg fun i => .of (by omega)
/-- what holds of all rows and is kept by sums holds of the span -/
theorem Span.ind {Q : Vec → Prop} (h0 : ∀ v : Vec, (∀ i, Cg p (v i) 0) → Q v) (hs : ∀ (a b v : Vec) (c : Int), Q a → Q b → (∀ i, Cg p (v i) (a i + c * b i)) → Q v) (hr : ∀ r ∈ rows, Q (gI r)) (h : Span p rows v) : Q v := by
  induction h with
  | zero h => exact h0 _ h
  | step c hm _ q ih => exact hs _ _ _ c ih (hr _ hm) q
theorem Span.trans (h : ∀ r ∈ rows, Span p rows' (gI r)) (hv : Span p rows v) : Span p rows' v :=
  hv.ind (fun v h => .zero h) (fun a b v c ha hb q => (ha.add (hb.smul c)).cg q) h
theorem Span.mono (h : ∀ r ∈ rows, r ∈ rows') (hv : Span p rows v) : Span p rows' v := hv.trans fun r hr => .mem (h r hr)
/-- equal spans -/
def SpEq (p : Int) (rows rows' : List (List Int)) : Prop := ∀ v, Span p rows v ↔ Span p rows' v
theorem SpEq.of (h1 : ∀ r ∈ rows, Span p rows' (gI r)) (h2 : ∀ r ∈ rows', Span p rows (gI r)) : SpEq p rows rows' := fun v => ⟨.trans h1, .trans h2⟩
theorem SpEq.symm (h : SpEq p rows rows') : SpEq p rows' rows := fun v => (h v).symm
theorem SpEq.trans {r3 : List (List Int)} (h : SpEq p rows rows') (h2 : SpEq p rows' r3) : SpEq p rows r3 := fun v => (h v).trans (h2 v)
theorem SpEq.perm (h : rows.Perm rows') : SpEq p rows rows' := .of (fun r hr => .mem (h.mem_iff.mp hr)) fun r hr => .mem (h.mem_iff.mpr hr)
/-! ### the rows' leads taken out -/
def projR (rows : List (List Int)) (v : Vec) : Vec := rows.foldl (fun u r i => u i - u (ldg r) * gI r i) v
theorem projR_cons : projR (r :: rows) v = projR rows fun i => v i - v (ldg r) * gI r i := rfl
theorem projR_append (rows rows' : List (List Int)) (v : Vec) : projR (rows ++ rows') v = projR rows' (projR rows v) := by unfold projR; rw [List.foldl_append]
theorem projR_cg : ∀ {rows : List (List Int)} {u v : Vec}, (∀ i, Cg p (u i) (v i)) → ∀ i, Cg p (projR rows u i) (projR rows v i)
  | [], _, _, h, i => h i
  | r :: rows, u, v, h, i => by
    rw [projR_cons, projR_cons]
    exact projR_cg (fun i => (h i).sub ((h _).mul (.refl _))) i
theorem projR_lin (c : Int) : ∀ {rows : List (List Int)} {u v : Vec} (i : Nat), projR rows (fun i => u i + c * v i) i = projR rows u i + c * projR rows v i
  | [], _, _, i => rfl
  | r :: rows, u, v, i => by
    rw [projR_cons, projR_cons, projR_cons, ← projR_lin c (rows := rows)]
    congr 1
    funext j
    grind
theorem projR_zero : ∀ {rows : List (List Int)} {v : Vec}, (∀ i, Cg p (v i) 0) → ∀ i, Cg p (projR rows v i) 0
  | [], _, h, i => h i
  | r :: rows, v, h, i => by
    rw [projR_cons]
    exact projR_zero (fun i => ((h i).sub ((h _).mul (.refl _))).trans (.of (by omega))) i
/-- nothing at the leads: nothing is taken -/
theorem projR_id : ∀ {rows : List (List Int)} {v : Vec}, (∀ r ∈ rows, Cg p (v (ldg r)) 0) → ∀ i, Cg p (projR rows v i) (v i)
  | [], _, _, i => .refl _
  | r :: rows, v, h, i => by
    rw [projR_cons]
    have e : ∀ i, Cg p (v i - v (ldg r) * gI r i) (v i) := fun i => ((Cg.refl _).sub ((h r List.mem_cons_self).mul (.refl _))).trans (.of (by omega))
    exact (projR_cg e i).trans (projR_id (fun s hs => h s (List.mem_cons_of_mem _ hs)) i)
theorem projR_span : ∀ {rows : List (List Int)} {v : Vec}, Span p rows fun i => v i - projR rows v i
  | [], v => .zero fun i => .of (by show v i - v i = 0; omega)
  | r :: rows, v => by
    have h1 : Span p (r :: rows) fun i => (v i - v (ldg r) * gI r i) - projR rows (fun i => v i - v (ldg r) * gI r i) i := (projR_span (rows := rows)).mono fun s hs => List.mem_cons_of_mem _ hs
    refine .step (v (ldg r)) List.mem_cons_self h1 fun i => .of ?_
    rw [projR_cons]
    omega
/-- each row has 1 at its lead, the later ones 0 there -/
structure Ech (p : Int) (rows : List (List Int)) : Prop where
  one : ∀ r ∈ rows, Cg p (gI r (ldg r)) 1
  tri : rows.Pairwise fun a b => Cg p (gI b (ldg a)) 0
theorem Ech.tail {rows : List (List Int)} (h : Ech p (r :: rows)) : Ech p rows := ⟨fun s hs => h.one s (List.mem_cons_of_mem _ hs), (List.pairwise_cons.mp h.tri).2⟩
theorem projR_at : ∀ {rows : List (List Int)} {v : Vec}, Ech p rows → ∀ r ∈ rows, Cg p (projR rows v (ldg r)) 0
  | [], _, _, r, hr => by cases hr
  | s :: rows, v, h, r, hr => by
    rw [projR_cons]
    rcases List.mem_cons.mp hr with e | hr
    · subst e
      -- the later rows have 0 there
      have key : ∀ {l : List (List Int)} {u : Vec}, (∀ t ∈ l, Cg p (gI t (ldg r)) 0) → Cg p (projR l u (ldg r)) (u (ldg r)) := by
        intro l
        induction l with
        | nil => intro u _; exact .refl _
        | cons t l ih =>
          intro u hl
          rw [projR_cons]
          exact (ih fun x hx => hl x (List.mem_cons_of_mem _ hx)).trans (((Cg.refl _).sub ((Cg.refl _).mul (hl t List.mem_cons_self))).trans (.of (by omega)))
      refine (key (List.pairwise_cons.mp h.tri).1).trans ?_
      exact ((Cg.refl _).sub ((Cg.refl _).mul (h.one r List.mem_cons_self))).trans (.of (by omega))
    · exact projR_at h.tail r hr
theorem projR_row : ∀ {rows : List (List Int)}, Ech p rows → ∀ r ∈ rows, ∀ i, Cg p (projR rows (gI r) i) 0
  | [], _, r, hr, _ => by cases hr
  | s :: rows, h, r, hr, i => by
    rw [projR_cons]
    rcases List.mem_cons.mp hr with e | hr
    · subst e
      refine projR_zero (fun j => ?_) i
      exact ((Cg.refl _).sub ((h.one r List.mem_cons_self).mul (.refl _))).trans (.of (by omega))
    · have e : ∀ j, Cg p (gI r j - gI r (ldg s) * gI s j) (gI r j) := fun j => ((Cg.refl _).sub (((List.pairwise_cons.mp h.tri).1 r hr).mul (.refl _))).trans (.of (by omega))
      exact (projR_cg e i).trans (projR_row h.tail r hr i)
/-- what the rows span: what is nothing without them -/
theorem span_iff (h : Ech p rows) : Span p rows v ↔ ∀ i, Cg p (projR rows v i) 0 := by
  constructor
  · intro hv
    refine hv.ind (Q := fun v => ∀ i, Cg p (projR rows v i) 0) (fun v h => projR_zero h) (fun a b v c ha hb q i => ?_) fun r hr => projR_row h r hr
    refine (projR_cg q i).trans ?_
    rw [projR_lin]
    exact ((ha i).add ((Cg.refl c).mul (hb i))).trans (.of (by omega))
  · intro hv
    exact (projR_span (rows := rows) (v := v)).cg fun i => (Cg.of (Int.sub_zero _).symm).trans ((Cg.refl (v i)).sub (hv i)).symm
/-- in the span, nothing at the leads: nothing -/
theorem span_lead0 (h : Ech p rows) (hv : Span p rows v) (h0 : ∀ r ∈ rows, Cg p (v (ldg r)) 0) : ∀ i, Cg p (v i) 0 := fun i => (projR_id h0 i).symm.trans ((span_iff h).mp hv i)
end
end Sh


set_option Elab.async false
set_option linter.all false
set_option maxRecDepth 100000
set_option maxHeartbeats 40000000
set_option autoImplicit false
/-! M3: reduced rows: made, unique -/
namespace Sh
structure Red (p : Int) (n : Nat) (rows : List (List Int)) : Prop where
  wd : ∀ r ∈ rows, Wd p n r
  one : ∀ r ∈ rows, ∃ l, lead r = some l ∧ gI r l = 1
  off : rows.Pairwise fun a b => gI b (ldg a) = 0 ∧ gI a (ldg b) = 0
def Asc (rows : List (List Int)) : Prop := rows.Pairwise fun a b => ldg a < ldg b
section
variable {p : Int} {n : Nat} {rows A B words : List (List Int)} {r ws : List Int} {v : Vec}
theorem Red.lead (h : Red p n rows) (hr : r ∈ rows) : lead r = some (ldg r) ∧ gI r (ldg r) = 1 ∧ ldg r < n ∧ ∀ j < ldg r, gI r j = 0 := by
  obtain ⟨l, h1, h2⟩ := h.one r hr
  have e := ldg_some h1
  obtain ⟨a, b, c⟩ := lead_some h1
  rw [e]
  exact ⟨h1, h2, by rw [← (h.wd r hr).1]; exact a, c⟩
theorem Red.ech (h : Red p n rows) : Ech p rows := ⟨fun r hr => .of (h.lead hr).2.1, h.off.imp fun q => .of q.1⟩
theorem Red.nil : Red p n [] := ⟨fun r h => (List.not_mem_nil h).elim, fun r h => (List.not_mem_nil h).elim, List.Pairwise.nil⟩
theorem Red.at_ (h : Red p n rows) {a b : List Int} (ha : a ∈ rows) (hb : b ∈ rows) (hab : a ≠ b) : gI a (ldg b) = 0 := by
  have := h.off
  have key : ∀ {l : List (List Int)}, l.Pairwise (fun a b => gI b (ldg a) = 0 ∧ gI a (ldg b) = 0) → a ∈ l → b ∈ l → a ≠ b → gI a (ldg b) = 0 := by
    intro l
    induction l with
    | nil => intro _ h; cases h
    | cons x l ih =>
      intro hp h1 h2 ne
      obtain ⟨q1, q2⟩ := List.pairwise_cons.mp hp
      rcases List.mem_cons.mp h1 with e1 | e1
      · rcases List.mem_cons.mp h2 with e2 | e2
        · exact absurd (e1.trans e2.symm) ne
        · subst e1; exact (q1 b e2).2
      · rcases List.mem_cons.mp h2 with e2 | e2
        · subst e2; exact (q1 a e1).1
        · exact ih q2 e1 e2 ne
  exact key this ha hb hab
theorem Red.perm (h : Red p n A) (q : A.Perm B) : Red p n B :=
  ⟨fun r hr => h.wd r (q.mem_iff.mpr hr), fun r hr => h.one r (q.mem_iff.mpr hr), (q.pairwise_iff fun ⟨a, b⟩ => ⟨b, a⟩).mp h.off⟩
theorem gI_out {i : Nat} (h : ws.length ≤ i) : gI ws i = 0 := by unfold gI; rw [List.getD_eq_getElem?_getD, List.getElem?_eq_none h]; rfl
theorem gI_ext {a b : List Int} (hl : a.length = b.length) (h : ∀ i < a.length, gI a i = gI b i) : a = b := by
  apply List.ext_getElem? ; intro i
  by_cases hi : i < a.length
  · rw [gI_get hi, gI_get (by omega), h i hi]
  · rw [List.getElem?_eq_none (by omega), List.getElem?_eq_none (by omega)]
theorem Wd.ext {a b : List Int} (hp : 0 < p) (ha : Wd p n a) (hb : Wd p n b) (h : ∀ i, Cg p (gI a i) (gI b i)) : a = b :=
  gI_ext (by rw [ha.1, hb.1]) fun i hi => (h i).eq (ha.get (by rw [← ha.1]; exact hi) hp) (hb.get (by rw [← ha.1]; exact hi) hp)
/-! ### one set of reduced rows -/
/-- below the first place that is not nothing, and there, nothing is taken -/
theorem projR_low {l : Nat} : ∀ {rows : List (List Int)} {v : Vec}, (∀ s ∈ rows, ∀ j < ldg s, gI s j = 0) → (∀ s ∈ rows, ldg s ≠ l) → (∀ i < l, Cg p (v i) 0) → ∀ i ≤ l, Cg p (projR rows v i) (v i)
  | [], _, _, _, _, i, _ => .refl _
  | s :: rows, v, h1, h2, h3, i, hi => by
    rw [projR_cons]
    have st : ∀ j ≤ l, Cg p (v j - v (ldg s) * gI s j) (v j) := fun j hj => by
      have ne := h2 s List.mem_cons_self
      by_cases q : ldg s < l
      · exact ((Cg.refl _).sub ((h3 _ q).mul (.refl _))).trans (.of (by omega))
      · exact .of (by rw [h1 s List.mem_cons_self j (by omega)]; omega)
    exact (projR_low (fun s hs => h1 s (List.mem_cons_of_mem _ hs)) (fun s hs => h2 s (List.mem_cons_of_mem _ hs)) (fun j hj => (st j (by omega)).trans (h3 j hj)) i hi).trans (st i hi)
/-- the first place of a thing spanned is a lead -/
theorem lead_in (h : Red p n rows) (hv : Span p rows v) {l : Nat} (h0 : ∀ i < l, Cg p (v i) 0) (hl : ¬ Cg p (v l) 0) : ∃ s ∈ rows, ldg s = l := by
  apply Classical.byContradiction
  intro no
  have q := projR_low (p := p) (l := l) (rows := rows) (v := v) (fun s hs => (h.lead hs).2.2.2) (fun s hs e => no ⟨s, hs, e⟩) h0 l (Nat.le_refl _)
  exact hl (q.symm.trans ((span_iff h.ech).mp hv l))
theorem asc_eq : ∀ {a b : List Nat}, a.Pairwise (· < ·) → b.Pairwise (· < ·) → (∀ x, x ∈ a ↔ x ∈ b) → a = b
  | [], [], _, _, _ => rfl
  | [], y :: b, _, _, h => by have := (h y).mpr List.mem_cons_self; cases this
  | x :: a, [], _, _, h => by have := (h x).mp List.mem_cons_self; cases this
  | x :: a, y :: b, ha, hb, h => by
    obtain ⟨a1, a2⟩ := List.pairwise_cons.mp ha
    obtain ⟨b1, b2⟩ := List.pairwise_cons.mp hb
    have e : x = y := by
      rcases List.mem_cons.mp ((h x).mp List.mem_cons_self) with e | e
      · exact e
      · rcases List.mem_cons.mp ((h y).mpr List.mem_cons_self) with e2 | e2
        · exact e2.symm
        · have := a1 y e2
          have := b1 x e
          omega
    subst e
    rw [asc_eq a2 b2 fun z => ?_]
    constructor
    · intro hz
      rcases List.mem_cons.mp ((h z).mp (List.mem_cons_of_mem _ hz)) with e | e
      · have := a1 z hz; omega
      · exact e
    · intro hz
      rcases List.mem_cons.mp ((h z).mpr (List.mem_cons_of_mem _ hz)) with e | e
      · have := b1 z hz; omega
      · exact e
theorem not_one {x : Int} (hp : 2 ≤ p) (h : Cg p 1 0) : False := by
  have := h.zero (by omega)
  omega
theorem leads_sub (hp : 2 ≤ p) (hA : Red p n A) (hB : Red p n B) (h : ∀ v, Span p A v → Span p B v) {l : Nat} (hl : l ∈ A.map ldg) : l ∈ B.map ldg := by
  obtain ⟨r, hr, e⟩ := List.mem_map.mp hl
  obtain ⟨_, l1, _, l0⟩ := hA.lead hr
  rw [e] at l1 l0
  obtain ⟨s, hs, e2⟩ := lead_in hB (h _ (.mem hr)) (l := l) (fun i hi => .of (l0 i hi)) fun q => not_one (x := 0) hp ((Cg.of l1).symm.trans q)
  exact List.mem_map.mpr ⟨s, hs, e2⟩
theorem Red.uniq (hp : 2 ≤ p) (hA : Red p n A) (hB : Red p n B) (aA : Asc A) (aB : Asc B) (h : SpEq p A B) : A = B := by
  have el : A.map ldg = B.map ldg := asc_eq (List.pairwise_map.mpr aA) (List.pairwise_map.mpr aB) fun x => ⟨leads_sub hp hA hB fun v => (h v).mp, leads_sub hp hB hA fun v => (h v).mpr⟩
  have ell : A.length = B.length := by simpa using congrArg List.length el
  apply List.ext_getElem ell
  intro i h1 h2
  have ma := List.getElem_mem h1
  have mb := List.getElem_mem h2
  have e : ldg A[i] = ldg B[i] := by
    have := congrArg (fun l => l[i]?) el
    simpa [h1, h2] using this
  refine Wd.ext (by omega) (hA.wd _ ma) (hB.wd _ mb) fun j => ?_
  have hs : Span p A fun j => gI A[i] j - gI B[i] j := (Span.mem ma).sub ((h _).mpr (.mem mb))
  have z := span_lead0 hA.ech hs (fun r hr => ?_) j
  · exact (Cg.of (by omega : gI A[i] j = gI A[i] j - gI B[i] j + gI B[i] j)).trans ((z.add (.refl (gI B[i] j))).trans (.of (by omega)))
  · have hrl : ldg r ∈ B.map ldg := by rw [← el]; exact List.mem_map.mpr ⟨r, hr, rfl⟩
    obtain ⟨s, hs, es⟩ := List.mem_map.mp hrl
    by_cases er : r = A[i]
    · have q1 := (hA.lead ma).2.1
      have q2 := (hB.lead mb).2.1
      rw [er]
      refine .of ?_
      rw [q1, e, q2]
      omega
    · have q1 := hA.at_ ma hr (Ne.symm er)
      have es2 : s ≠ B[i] := fun z => er (by
        obtain ⟨k, hk, ek⟩ := List.getElem_of_mem hr
        have : ldg A[k] = ldg A[i] := by rw [ek, ← es, z, e]
        have ki : k = i := by
          rcases Nat.lt_trichotomy k i with q | q | q
          · have := List.pairwise_iff_getElem.mp aA k i hk h1 q; omega
          · exact q
          · have := List.pairwise_iff_getElem.mp aA i k h1 hk q; omega
        subst ki
        exact ek.symm)
      have q2 := hB.at_ mb hs (Ne.symm es2)
      rw [es] at q2
      exact .of (by rw [q1, q2]; omega)
/-! ### sorted by the code: by the lead -/
theorem code_at {B : Int} : ∀ {a b : List Int} {l : Nat}, a.length = b.length → TS.Bd B a → TS.Bd B b → l < a.length → (∀ i < l, gI a i = gI b i) → gI a l < gI b l → TS.code B a < TS.code B b
  | [], _, _, _, _, _, hl, _, _ => by cases hl
  | x :: a, [], _, h, _, _, _, _, _ => by cases h
  | x :: a, y :: b, 0, hl, ha, hb, _, _, h => TS.code_lt (by simpa using hl) ha.tail hb.tail h
  | x :: a, y :: b, l + 1, hl, ha, hb, hi, h1, h2 => by
    have e : x = y := h1 0 (by omega)
    subst e
    exact (TS.code_same (by simpa using hl)).mpr (code_at (by simpa using hl) ha.tail hb.tail (by simpa using hi) (fun i hi => h1 (i + 1) (by omega)) h2)
theorem Wd.bd (h : Wd p n ws) : TS.Bd p ws := h.2
theorem asc_sorted (h : Red p n rows) : Asc (sortC p rows).reverse := by
  have hR : Red p n (sortC p rows) := h.perm (sortC_perm p rows).symm
  have up := sortC_up p rows
  unfold Asc
  rw [List.pairwise_reverse]
  have both := List.Pairwise.and up hR.off
  refine List.Pairwise.imp_of_mem (fun {a b} ha hb q => ?_) both
  obtain ⟨q1, q2, q3⟩ := q
  obtain ⟨_, a1, an, a0⟩ := hR.lead ha
  obtain ⟨_, b1, bn, b0⟩ := hR.lead hb
  apply Classical.byContradiction
  intro no
  have hlt : ldg a < ldg b ∨ ldg a = ldg b := by omega
  rcases hlt with z | z
  · have := code_at (B := p) (a := b) (b := a) (l := ldg a) (by rw [(hR.wd a ha).1, (hR.wd b hb).1]) (hR.wd b hb).bd (hR.wd a ha).bd (by rw [(hR.wd b hb).1]; omega) (fun i hi => by rw [a0 i hi, b0 i (by omega)]) (by rw [a1, b0 _ z]; decide)
    omega
  · rw [z, b1] at q2
    cases q2
/-! ### rows made -/
theorem rest_wd (hp : 0 < p) : ∀ {rows : List (List Int)} {ws : List Int}, (∀ r ∈ rows, Wd p n r) → Wd p n ws → Wd p n (restI p rows ws)
  | [], ws, _, h => h
  | r :: rows, ws, hr, h => by
    show Wd p n (restI p rows (lessI p ws (gI ws (ldg r)) r))
    exact rest_wd hp (fun s hs => hr s (List.mem_cons_of_mem _ hs)) (.less hp h.1 (hr r List.mem_cons_self).1)
theorem less_cg {d : Int} (h : ws.length = n) (h2 : r.length = n) (i : Nat) : Cg p (gI (lessI p ws d r) i) (gI ws i - d * gI r i) := by
  by_cases hi : i < n
  · rw [gI_less h h2 hi]; exact .mod _
  · have e : (lessI p ws d r).length = n := by unfold lessI; rw [List.length_map, List.length_zip, h, h2, Nat.min_self]
    rw [gI_out (by omega), gI_out (by omega), gI_out (by omega)]
    exact .of (by omega)
theorem rest_cg (hp : 0 < p) : ∀ {rows : List (List Int)} {ws : List Int}, (∀ r ∈ rows, Wd p n r) → Wd p n ws → ∀ i, Cg p (gI (restI p rows ws) i) (projR rows (gI ws) i)
  | [], ws, _, h, i => .refl _
  | r :: rows, ws, hr, h, i => by
    show Cg p (gI (restI p rows (lessI p ws (gI ws (ldg r)) r)) i) _
    rw [projR_cons]
    have hr0 := hr r List.mem_cons_self
    refine (rest_cg hp (fun s hs => hr s (List.mem_cons_of_mem _ hs)) (.less hp h.1 hr0.1) i).trans (projR_cg (fun j => less_cg h.1 hr0.1 j) i)
theorem times_cg {d : Int} (i : Nat) : Cg p (gI (timesI p d ws) i) (d * gI ws i) := by
  by_cases hi : i < ws.length
  · rw [gI_times hi]; exact (Cg.mod _).trans (.of (Int.mul_comm _ _))
  · have e : (timesI p d ws).length = ws.length := by unfold timesI; rw [List.length_map]
    rw [gI_out (by omega), gI_out (by omega)]
    exact .of (by omega)
/-- the lead of a word that is not nothing becomes 1 -/
theorem led_spec (hp : isP p) (h : Wd p n ws) {l : Nat} (hl : lead ws = some l) : Wd p n (ledI p ws) ∧ lead (ledI p ws) = some l ∧ gI (ledI p ws) l = 1 := by
  obtain ⟨a, b, c⟩ := lead_some hl
  have hp2 := hp.two
  have e := ldg_some hl
  have bd := h.get (i := l) (by rw [← h.1]; exact a) (by omega)
  obtain ⟨i1, i2, i3⟩ := invI_spec hp (d := gI ws l) (by omega) bd.2
  have hw : Wd p n (ledI p ws) := Wd.times (by omega) h.1
  have e1 : gI (ledI p ws) l = 1 := by
    unfold ledI
    rw [gI_times a, e, Int.mul_comm]
    exact i3
  refine ⟨hw, lead_of_first (by rw [hw.1, ← h.1]; exact a) (by rw [e1]; decide) fun j hj => ?_, e1⟩
  unfold ledI
  rw [gI_times (by omega), c j hj, Int.zero_mul, Int.zero_emod]
theorem led_span (hp : isP p) (h : Wd p n ws) (hl : lead ws ≠ none) : SpEq p (rows ++ [ledI p ws]) (rows ++ [ws]) := by
  cases q : lead ws with
  | none => exact absurd q hl
  | some l =>
    obtain ⟨a, b, c⟩ := lead_some q
    have hp2 := hp.two
    have e := ldg_some q
    have bd := h.get (i := l) (by rw [← h.1]; exact a) (by omega)
    obtain ⟨i1, i2, i3⟩ := invI_spec hp (d := gI ws l) (by omega) bd.2
    refine .of (fun r hr => ?_) fun r hr => ?_
    · rcases List.mem_append.mp hr with m | m
      · exact .mem (List.mem_append_left _ m)
      · rw [List.mem_singleton.mp m]
        exact ((Span.mem (p := p) (rows := rows ++ [ws]) (r := ws) (List.mem_append_right _ List.mem_cons_self)).smul (invI p (gI ws (ldg ws)))).cg fun i => times_cg i
    · rcases List.mem_append.mp hr with m | m
      · exact .mem (List.mem_append_left _ m)
      · rw [List.mem_singleton.mp m]
        refine ((Span.mem (p := p) (rows := rows ++ [ledI p ws]) (r := ledI p ws) (List.mem_append_right _ List.mem_cons_self)).smul (gI ws l)).cg fun i => ?_
        have t : Cg p (gI (ledI p ws) i) (invI p (gI ws l) * gI ws i) := by rw [show ledI p ws = timesI p (invI p (gI ws (ldg ws))) ws from rfl, e]; exact times_cg i
        have one : Cg p (invI p (gI ws l) * gI ws l) 1 := (Cg.mod _).symm.trans (.of i3)
        refine Cg.symm (((Cg.refl _).mul t).trans ((Cg.of (by grind)).trans ((one.mul (.refl (gI ws i))).trans (.of (Int.one_mul _)))))
/-- a row taken out of another: the lead stays -/
theorem less_red (hp : 2 ≤ p) {one row : List Int} (h1 : Wd p n one) (h2 : Wd p n row) {a l : Nat} (ha : lead one = some a) (ga : gI one a = 1) (hl : lead row = some l) (gl : gI row l = 1) (h0 : gI row a = 0) :
    Wd p n (lessI p one (gI one l) row) ∧ lead (lessI p one (gI one l) row) = some a ∧ gI (lessI p one (gI one l) row) a = 1 ∧ gI (lessI p one (gI one l) row) l = 0 := by
  obtain ⟨a1, a2, a3⟩ := lead_some ha
  obtain ⟨l1, l2, l3⟩ := lead_some hl
  have hn1 : a < n := by rw [← h1.1]; exact a1
  have hn2 : l < n := by rw [← h2.1]; exact l1
  have hw : Wd p n (lessI p one (gI one l) row) := .less (by omega) h1.1 h2.1
  have e1 : gI (lessI p one (gI one l) row) a = 1 := by
    rw [gI_less h1.1 h2.1 hn1, ga, h0, Int.mul_zero, Int.sub_zero]
    exact Int.emod_eq_of_lt (by omega) (by omega)
  refine ⟨hw, lead_of_first (by rw [hw.1]; exact hn1) (by rw [e1]; decide) fun j hj => ?_, e1, ?_⟩
  · rw [gI_less h1.1 h2.1 (by omega), a3 j hj]
    by_cases q : l < a
    · rw [a3 l q, Int.zero_mul, Int.sub_zero, Int.zero_emod]
    · have ne : l ≠ a := fun z => by rw [z, h0] at gl; cases gl
      rw [l3 j (by omega), Int.mul_zero, Int.sub_zero, Int.zero_emod]
  · rw [gI_less h1.1 h2.1 hn2, gl, Int.mul_one, Int.sub_self, Int.zero_emod]
/-- a new row, taken out of the others -/
theorem red_snoc (hp : 2 ≤ p) (h : Red p n rows) {row : List Int} (hw : Wd p n row) {l : Nat} (hl : lead row = some l) (gl : gI row l = 1) (h0 : ∀ r ∈ rows, gI row (ldg r) = 0) :
    Red p n ((rows.map fun one => lessI p one (gI one l) row) ++ [row]) ∧ SpEq p ((rows.map fun one => lessI p one (gI one l) row) ++ [row]) (rows ++ [row]) ∧ (rows.map fun one => lessI p one (gI one l) row).map ldg = rows.map ldg := by
  have each : ∀ one ∈ rows, Wd p n (lessI p one (gI one l) row) ∧ lead (lessI p one (gI one l) row) = some (ldg one) ∧ gI (lessI p one (gI one l) row) (ldg one) = 1 ∧ gI (lessI p one (gI one l) row) l = 0 := fun one ho => by
    obtain ⟨a1, a2, _⟩ := h.lead ho
    exact less_red hp (h.wd one ho) hw a1 a2 hl gl (h0 one ho)
  have el := ldg_some hl
  refine ⟨⟨fun r hr => ?_, fun r hr => ?_, ?_⟩, .of (fun r hr => ?_) fun r hr => ?_, ?_⟩
  · rcases List.mem_append.mp hr with m | m
    · obtain ⟨one, ho, e⟩ := List.mem_map.mp m
      rw [← e]; exact (each one ho).1
    · rw [List.mem_singleton.mp m]; exact hw
  · rcases List.mem_append.mp hr with m | m
    · obtain ⟨one, ho, e⟩ := List.mem_map.mp m
      rw [← e]; exact ⟨_, (each one ho).2.1, (each one ho).2.2.1⟩
    · rw [List.mem_singleton.mp m]; exact ⟨l, hl, gl⟩
  · rw [List.pairwise_append]
    refine ⟨List.pairwise_map.mpr (List.Pairwise.imp_of_mem (fun {a b} ha hb q => ?_) h.off), List.pairwise_singleton _ _, fun a ha b hb => ?_⟩
    · obtain ⟨a1, a2, a3, a4⟩ := each a ha
      obtain ⟨b1, b2, b3, b4⟩ := each b hb
      have na : ldg a < n := (h.lead ha).2.2.1
      have nb : ldg b < n := (h.lead hb).2.2.1
      rw [ldg_some a2, ldg_some b2]
      constructor
      · rw [gI_less (h.wd b hb).1 hw.1 na, q.1, h0 a ha, Int.mul_zero, Int.sub_zero, Int.zero_emod]
      · rw [gI_less (h.wd a ha).1 hw.1 nb, q.2, h0 b hb, Int.mul_zero, Int.sub_zero, Int.zero_emod]
    · rw
            [List.mem_singleton.mp hb]
      obtain ⟨one, ho, e⟩ := List.mem_map.mp ha
      obtain ⟨a1, a2, a3, a4⟩ := each one ho
      rw [← e, ldg_some a2, el]
      exact ⟨h0 one ho, a4⟩
  · rcases List.mem_append.mp hr with m | m
    · obtain ⟨one, ho, e⟩ := List.mem_map.mp m
      rw [← e]
      have q1 : Span p (rows ++ [row]) (gI one) := .mem (List.mem_append_left _ ho)
      have q2 : Span p (rows ++ [row]) (gI row) := .mem (List.mem_append_right _ List.mem_cons_self)
      exact (q1.sub (q2.smul (gI one l))).cg fun i => less_cg (h.wd one ho).1 hw.1 i
    · rw [List.mem_singleton.mp m]; exact .mem (List.mem_append_right _ List.mem_cons_self)
  · rcases List.mem_append.mp hr with m | m
    · have q1 : Span p ((rows.map fun one => lessI p one (gI one l) row) ++ [row]) (gI (lessI p r (gI r l) row)) := .mem (List.mem_append_left _ (List.mem_map.mpr ⟨r, m, rfl⟩))
      have q2 : Span p ((rows.map fun one => lessI p one (gI one l) row) ++ [row]) (gI row) := .mem (List.mem_append_right _ List.mem_cons_self)
      refine (q1.add (q2.smul (gI r l))).cg fun i => ?_
      have t := less_cg (p := p) (d := gI r l) (h.wd r m).1 hw.1 i
      exact (Cg.of (by omega : gI r i = gI r i - gI r l * gI row i + gI r l * gI row i)).trans (t.symm.add (.refl _))
    · rw [List.mem_singleton.mp m]; exact .mem (List.mem_append_right _ List.mem_cons_self)
  · rw [List.map_map]
    exact List.map_congr_left fun one ho => ldg_some (each one ho).2.1
theorem wd_zero (hp : 0 < p) (h : Wd p n ws) : lead ws = none ↔ ∀ i, Cg p (gI ws i) 0 := by
  constructor
  · intro q i
    exact .of (lead_none q i)
  · intro q
    exact lead_of_zero fun j hj => (q j).zero (h.get (by rw [← h.1]; exact hj) hp)
theorem step_none (q : lead (restI p rows ws) = none) : stepI p rows ws = rows := by unfold stepI; simp only [q]
theorem step_some {l : Nat} (q : lead (restI p rows ws) = some l) : stepI p rows ws = (rows.map fun one => lessI p one (gI one (ldg (ledI p (restI p rows ws)))) (ledI p (restI p rows ws))) ++ [ledI p (restI p rows ws)] := by unfold stepI; simp only [q]
theorem step_red (hp : isP p) (h : Red p n rows) (hw : Wd p n ws) : Red p n (stepI p rows ws) ∧ SpEq p (stepI p rows ws) (rows ++ [ws]) ∧ (stepI p rows ws).length ≤ rows.length + 1 ∧ ((stepI p rows ws).length = rows.length + 1 ↔ ¬ Span p rows (gI ws)) := by
  have hp2 := hp.two
  have rw_ := rest_wd (p := p) (n := n) (by omega) h.wd hw
  have rc := rest_cg (p := p) (n := n) (by omega) h.wd hw
  have inS : Span p rows (gI ws) ↔ lead (restI p rows ws) = none := by
    rw [span_iff h.ech, wd_zero (by omega) rw_]
    exact ⟨fun q i => (rc i).trans (q i), fun q i => (rc i).symm.trans (q i)⟩
  cases q : lead (restI p rows ws) with
  | none =>
    have hs := inS.mpr q
    rw [step_none q]
    refine ⟨h, .of (fun r hr => .mem (List.mem_append_left _ hr)) (fun r hr => ?_), by simp, ?_⟩
    · rcases List.mem_append.mp hr with m | m
      · exact .mem m
      · rw [List.mem_singleton.mp m]; exact hs
    · constructor
      · intro z; simp at z
      · intro z; exact absurd hs z
  | some l =>
    have ns : ¬ Span p rows (gI ws) := fun z => by rw [inS.mp z] at q; cases q
    obtain ⟨l1, l2, l3⟩ := led_spec hp rw_ q
    have z0 : ∀ r ∈ rows, gI (ledI p (restI p rows ws)) (ldg r) = 0 := fun r hr => by
      have a1 : Cg p (gI (restI p rows ws) (ldg r)) 0 := (rc _).trans (projR_at h.ech r hr)
      have a2 : gI (restI p rows ws) (ldg r) = 0 := a1.zero (rw_.get (h.lead hr).2.2.1 (by omega))
      have : Cg p (gI (ledI p (restI p rows ws)) (ldg r)) 0 := (times_cg _).trans (.of (by rw [a2]; omega))
      exact this.zero (l1.get (h.lead hr).2.2.1 (by omega))
    obtain ⟨r1, r2, _⟩ := red_snoc hp2 h l1 l2 l3 z0
    have el := ldg_some l2
    rw [step_some q, el]
    refine ⟨r1, r2.trans ((led_span hp rw_ (by rw [q]; simp)).trans (.of (fun r hr => ?_) fun r hr => ?_)), by simp, ?_⟩
    · rcases List.mem_append.mp hr with m | m
      · exact .mem (List.mem_append_left _ m)
      · rw [List.mem_singleton.mp m]
        have s1 : Span p (rows ++ [ws]) (gI ws) := .mem (List.mem_append_right _ List.mem_cons_self)
        have s2 : Span p (rows ++ [ws]) fun i => gI ws i - projR rows (gI ws) i := projR_span.mono fun s hs => List.mem_append_left _ hs
        exact (s1.sub s2).cg fun i => (rc i).trans (.of (by omega))
    · rcases List.mem_append.mp hr with m | m
      · exact .mem (List.mem_append_left _ m)
      · rw [List.mem_singleton.mp m]
        have s1 : Span p (rows ++ [restI p rows ws]) (gI (restI p rows ws)) := .mem (List.mem_append_right _ List.mem_cons_self)
        have s2 : Span p (rows ++ [restI p rows ws]) fun i => gI ws i - projR rows (gI ws) i := projR_span.mono fun s hs => List.mem_append_left _ hs
        exact (s1.add s2).cg fun i => ((Cg.of (by omega : gI ws i = projR rows (gI ws) i + (gI ws i - projR rows (gI ws) i))).trans ((rc i).symm.add (.refl _)))
    · constructor
      · intro _; exact ns
      · intro _; simp
theorem gauss_snoc (ws : List Int) : gaussI p (words ++ [ws]) = stepI p (gaussI p words) ws := by unfold gaussI; rw [List.foldl_append]; rfl
end
end Sh


set_option Elab.async false
set_option linter.all false
set_option maxRecDepth 100000
set_option maxHeartbeats 40000000
set_option autoImplicit false
/-! M4: reduced_by, what it makes -/
namespace Sh
section
variable {p : Int} {n : Nat} {rows A B words : List (List Int)} {r ws : List Int} {v : Vec}
theorem take_snoc {α : Type} {l : List α} {k : Nat} {a : α} (h : l[k]? = some a) : l.take (k + 1) = l.take k ++ [a] := by rw [List.take_succ, h]; rfl
/-- words none of which the ones ahead span -/
def Free (p : Int) (words : List (List Int)) (k : Nat) : Prop := ∀ i w, i < k → words[i]? = some w → ¬ Span p (words.take i) (gI w)
theorem gauss_take (hp : isP p) (hw : ∀ w ∈ words, Wd p n w) : ∀ k, k ≤ words.length → Red p n (gaussI p (words.take k)) ∧ SpEq p (gaussI p (words.take k)) (words.take k) ∧ (gaussI p (words.take k)).length ≤ k ∧ ((gaussI p (words.take k)).length = k ↔ Free p words k)
  | 0, _ => ⟨Red.nil, fun v => by rw [List.take_zero]; rfl, Nat.le_refl _, ⟨fun _ i w hi => absurd hi (Nat.not_lt_zero _), fun _ => rfl⟩⟩
  | k + 1, hk => by
    obtain ⟨h1, h2, h3, h4⟩ := gauss_take hp hw k (by omega)
    have hk' : k < words.length := by omega
    have e : words[k]? = some words[k] := List.getElem?_eq_getElem hk'
    rw [take_snoc e, gauss_snoc]
    obtain ⟨s1, s2, s3, s4⟩ := step_red hp h1 (hw _ (List.getElem_mem hk'))
    refine ⟨s1, s2.trans (.of (fun r hr => ?_) fun r hr => ?_), by omega, ?_⟩
    · rcases List.mem_append.mp hr with m | m
      · exact ((h2 _).mp (.mem m)).mono fun s hs => List.mem_append_left _ hs
      · exact .mem (List.mem_append_right _ m)
    · rcases List.mem_append.mp hr with m | m
      · exact ((h2 _).mpr (.mem m)).mono fun s hs => List.mem_append_left _ hs
      · exact .mem (List.mem_append_right _ m)
    · constructor
      · intro z i w hi hw'
        have a1 : (gaussI p (words.take k)).length = k := by omega
        rcases Nat.lt_succ_iff_lt_or_eq.mp hi with q | q
        · exact h4.mp a1 i w q hw'
        · subst q
          rw [e] at hw'
          cases hw'
          have ns := s4.mp (by omega)
          exact fun y => ns ((h2 _).mpr y)
      · intro F
        have a1 := h4.mpr fun i w hi hw' => F i w (by omega) hw'
        rw [s4.mpr fun y => F k _ (by omega) e ((h2 _).mp y), a1]
theorem gauss_red (hp : isP p) (hw : ∀ w ∈ words, Wd p n w) : Red p n (gaussI p words) ∧ SpEq p (gaussI p words) words ∧ (gaussI p words).length ≤ words.length ∧ ((gaussI p words).length = words.length ↔ Free p words words.length) := by
  have := gauss_take hp hw words.length (Nat.le_refl _)
  rwa [List.take_length] at this
theorem reduced_red (hp : isP p) (hw : ∀ w ∈ words, Wd p n w) : Red p n (reducedI p words) ∧ Asc (reducedI p words) ∧ SpEq p (reducedI p words) words ∧ (reducedI p words).length = (gaussI p words).length := by
  obtain ⟨h1, h2, _⟩ := gauss_red hp hw
  have pm : (gaussI p words).Perm (reducedI p words) := (sortC_perm p _).symm.trans (List.reverse_perm _).symm
  exact ⟨h1.perm pm, asc_sorted h1, (SpEq.perm pm).symm.trans h2, pm.length_eq.symm⟩
theorem step_len (rows : List (List Int)) (ws : List Int) : (stepI p rows ws).length ≤ rows.length + 1 := by
  cases q : lead (restI p rows ws) with
  | none => rw [step_none q]; omega
  | some l => rw [step_some q]; simp
end
end Sh


set_option Elab.async false
set_option linter.all false
set_option maxRecDepth 100000
set_option maxHeartbeats 40000000
set_option autoImplicit false
/-! W1: the defs of kinds and spanwork -/
namespace Sh
open PySem PySem.Spec
      PyProof.Rows L2
def fns : List (Str × Stmt) := [(("is_integer" : Str), s_is_integer), (("is_number" : Str), s_is_number), (("is_index" : Str), s_is_index), (("is_size" : Str), s_is_size), (("is_tuple_of" : Str), s_is_tuple_of), (("is_stretch" : Str), s_is_stretch), (("lead_of" : Str), s_lead_of), (("inverse_in" : Str), s_inverse_in), (("times_by" : Str), s_times_by), (("added_by" : Str), s_added_by), (("less_times" : Str), s_less_times), (("rest_by" : Str), s_rest_by), (("led_row" : Str), s_led_row), (("reduced_by" : Str), s_reduced_by), (("rank_among" : Str), s_rank_among), (("unit_by" : Str), s_unit_by), (("weights_in" : Str), s_weights_in), (("check_for" : Str), s_check_for), (("checks_by" : Str), s_checks_by), (("column_in" : Str), s_column_in), (("rank_at" : Str), s_rank_at), (("ring_places" : Str), s_ring_places), (("rank_along" : Str), s_rank_along), (("rank_in" : Str), s_rank_in), (("is_integer" : Str), s_is_integer), (("is_integer" : Str), s_is_integer), (("want_stretch" : Str), s_want_stretch), (("lands_by" : Str), s_lands_by), (("balls_by" : Str), s_balls_by), (("thrown_by" : Str), s_thrown_by), (("open_at" : Str), s_open_at), (("is_digit_or_none" : Str), s_is_digit_or_none), (("lost_places" : Str), s_lost_places), (("are_told" : Str), s_are_told), (("products_sum" : Str), s_products_sum), (("words_on" : Str), s_words_on), (("check_against" : Str), s_check_against), (("filled" : Str), s_filled), (("open_words" : Str), s_open_words), (("holds_any" : Str), s_holds_any), (("mends_burst" : Str), s_mends_burst), (("most_burst" : Str), s_most_burst), (("most_window" : Str), s_most_window), (("open_rank" : Str), s_open_rank), (("next_ones" : Str), s_next_ones), (("ones_before" : Str), s_ones_before), (("chain_of" : Str), s_chain_of), (("_law_feed" : Str), s_L_feed), (("_law_same" : Str), s_L_same), (("_law_pick" : Str), s_L_pick), (("_law_draw" : Str), s_L_draw), (("_law_heard" : Str), s_L_heard), (("_law_throws" : Str), s_L_throws), (("_law_balls" : Str), s_L_balls), (("_law_rank" : Str), s_L_rank), (("_law_settled" : Str), s_L_settled), (("_law_less" : Str), s_L_less), (("_law_book" : Str), s_L_book), (("_law_first" : Str), s_L_first), (("_law_back" : Str), s_L_back), (("_law_open" : Str), s_L_open), (("_law_places" : Str), s_L_places), (("_law_columns_rank" : Str), s_L_columns_rank), (("_law_pattern" : Str), s_L_pattern), (("_law_bridged_book" : Str), s_L_bridged_book), (("_law_are_stretches_right" : Str), s_L_are_stretches_right), (("_law_most" : Str), s_L_most), (("_law_are_menders_right" : Str), s_L_are_menders_right), (("_law_are_throws_right" : Str), s_L_are_throws_right), (("_law_word" : Str), s_L_word), (("_law_sum" : Str), s_L_sum), (("_law_is_torn_right" : Str), s_L_is_torn_right), (("_law_is_word" : Str), s_L_is_word), (("_law_is_lost_right" : Str), s_L_is_lost_right), (("_law_filled" : Str), s_L_filled), (("_law_is_filled_right" : Str), s_L_is_filled_right), (("_law_is_right" : Str), s_L_is_right), (("_law_are_books_right" : Str), s_L_are_books_right), (("law" : Str), s_law)]
def bls : List Str := ["all", "bool", "dict", "enumerate", "int", "isinstance", "len", "list", "max", "min", "range", "repr", "sorted", "sum", "tuple", "zip"]
def isIntD : PyData → Bool
  | .int _ => true
  | _ => false
def isBoolD : PyData → Bool
  | .bool _ => true
  | _ => false
def isTupD : PyData → Bool
  | .tuple _ => true
  | _ => false
section
variable {S : SC} {ds : List Slot} {a : Expr} {x : PyData} {p p1 pos : Pos}
theorem kt_int_NoneType : kitB "NoneType" "int" = some false := by decide +kernel
theorem kt_int_bool : kitB "bool" "int" = some true := by decide +kernel
theorem kt_int_int : kitB "int" "int" = some true := by decide +kernel
theorem kt_int_str : kitB "str" "int" = some false := by decide +kernel
theorem kt_int_list : kitB "list" "int" = some false := by decide +kernel
theorem kt_int_tuple : kitB "tuple" "int" = some false := by decide +kernel
theorem kt_int_dict : kitB "dict" "int" = some false := by decide +kernel
theorem kt_bool_NoneType : kitB "NoneType" "bool" = some false := by decide +kernel
theorem kt_bool_bool : kitB "bool" "bool" = some true := by decide +kernel
theorem kt_bool_int : kitB "int" "bool" = some false := by decide +kernel
theorem kt_bool_str : kitB "str" "bool" = some false := by decide +kernel
theorem kt_bool_list : kitB "list" "bool" = some false := by decide +kernel
theorem kt_bool_tuple : kitB "tuple" "bool" = some false := by decide +kernel
theorem kt_bool_dict : kitB "dict" "bool" = some false := by decide +kernel
theorem kt_tuple_NoneType : kitB "NoneType" "tuple" = some false := by decide +kernel
theorem kt_tuple_bool : kitB "bool" "tuple" = some false := by decide +kernel
theorem kt_tuple_int : kitB "int" "tuple" = some false := by decide +kernel
theorem kt_tuple_str : kitB "str" "tuple" = some false := by decide +kernel
theorem kt_tuple_list : kitB "list" "tuple" = some false := by decide +kernel
theorem kt_tuple_tuple : kitB "tuple" "tuple" = some true := by decide +kernel
theorem kt_tuple_dict : kitB "dict" "tuple" = some false := by decide +kernel
theorem kit_int (x : PyData) : kitB (tyD x) "int" = some (isIntD x || isBoolD x) := by
  cases x
  · exact kt_int_NoneType
  · exact kt_int_bool
  · exact kt_int_int
  · exact kt_int_str
  · exact kt_int_list
  · exact kt_int_tuple
  · exact kt_int_dict
theorem kit_bool (x : PyData) : kitB (tyD x) "bool" = some (isBoolD x) := by
  cases x
  · exact kt_bool_NoneType
  · exact kt_bool_bool
  · exact kt_bool_int
  · exact kt_bool_str
  · exact kt_bool_list
  · exact kt_bool_tuple
  · exact kt_bool_dict
theorem kit_tuple (x : PyData) : kitB (tyD x) "tuple" = some (isTupD x) := by
  cases x
  · exact kt_tuple_NoneType
  · exact kt_tuple_bool
  · exact kt_tuple_int
  · exact kt_tuple_str
  · exact kt_tuple_list
  · exact kt_tuple_tuple
  · exact kt_tuple_dict
end
section
variable {P : Program} {w : World} {K :
      PySem.W.Frag} {mg : Str → Option Value} {base : Heap}
def R_is_integer (args : List PyData) (d : PyData) : Prop := ∃ x, args = [x] ∧ d = .bool (isIntD x)
theorem ok_is_integer (L : Lib K mg fns bls) : Cal P w K mg base "is_integer" 1 (spP R_is_integer) := by
  refine cal_pure (N := ["thing"]) (ps := ["thing"]) (k := 0) L 0 rfl ⟨rfl, rfl, rfl, by decide +kernel, rfl, by decide +kernel, by decide +kernel⟩ (bind1 fun _ _ _ _ _ _ _ => rfl) ?_ ?_
  · rintro args d ⟨_, rfl, _⟩; rfl
  rintro args d ⟨x, rfl, rfl⟩ fa
  refine js_retE (je_and (je_isi (T := "int") (je_var (n := 0) rfl) (kit_int x) (L.bl _ (by decide)) (L.bl _ (by decide)) (by decide +kernel)) fun _ => (je_one (je_not (je_isi (T := "bool") (je_var (n := 0) rfl) (kit_bool x) (L.bl _ (by decide)) (L.bl _ (by decide)) (by decide +kernel))))) ?_ rfl
  cases x <;> rfl
def R_is_number (args : List PyData) (d : PyData) : Prop := ∃ i : Int, args = [.int i] ∧ d = .bool (decide (0 ≤ i))
theorem ok_is_number (L : Lib K mg fns bls) : Cal P w K mg base "is_number" 2 (spP R_is_number) := by
  refine cal_pure (N := ["thing"]) (ps := ["thing"]) (k := 1) L 1 rfl ⟨rfl, rfl, rfl, by decide +kernel, rfl, by decide +kernel, by decide +kernel⟩ (bind1 fun _ _ _ _ _ _ _ => rfl) ?_ ?_
  · rintro args d ⟨_, rfl, _⟩; rfl
  rintro args d ⟨i, rfl, rfl⟩ fa
  refine js_retE (je_and (je_call (ok_is_integer L) (by show 1 ≤ 1; decide) (ja_cons (je_var (n := 0) rfl) ja_nil) ⟨_, rfl, rfl⟩) fun _ => (je_one (je_ge (je_var (n := 0) rfl) je_int))) ?_ rfl
  simp [isIntD]
def R_is_index (args : List PyData) (d : PyData) : Prop := ∃ i n : Int, args = [.int i, .int n] ∧ d = .bool (decide (0 ≤ i ∧ i < n))
theorem ok_is_index (L : Lib K mg fns bls) : Cal P w K mg base "is_index" 3 (spP R_is_index) := by
  refine cal_pure (N := ["thing", "many"]) (ps := ["thing", "many"]) (k := 2) L 2 rfl ⟨rfl, rfl, rfl, by decide +kernel, rfl, by decide +kernel, by decide +kernel⟩ (bind2 fun _ _ _ _ _ _ _ _ => rfl) ?_ ?_
  · rintro args d ⟨_, _, rfl, _⟩; rfl
  rintro args d ⟨i, n, rfl, rfl⟩ fa
  refine js_retE (je_and (je_call (ok_is_number L) (by show 2 ≤ 2; decide) (ja_cons (je_var (n := 0) rfl) ja_nil) ⟨_, rfl, rfl⟩) fun _ => (je_one (je_lt (je_var (n := 0) rfl) (je_var (n := 1) rfl)))) ?_ rfl
  simp
def R_is_size (args : List PyData) (d : PyData) : Prop := ∃ i : Int, args = [.int i] ∧ d = .bool (decide (1 ≤ i))
theorem ok_is_size (L : Lib K mg fns bls) : Cal P w K mg base "is_size" 2 (spP R_is_size) := by
  refine cal_pure (N := ["thing"]) (ps := ["thing"]) (k := 1) L 3 rfl ⟨rfl, rfl, rfl, by decide +kernel, rfl, by decide +kernel, by decide +kernel⟩ (bind1 fun _ _ _ _ _ _ _ => rfl) ?_ ?_
  · rintro args d ⟨_, rfl, _⟩; rfl
  rintro args d ⟨i, rfl, rfl⟩ fa
  refine js_retE (je_and (je_call (ok_is_integer L) (by show 1 ≤ 1; decide) (ja_cons (je_var (n := 0) rfl) ja_nil) ⟨_, rfl, rfl⟩) fun _ => (je_one (je_ge (je_var (n := 0) rfl) je_int))) ?_ rfl
  simp [isIntD]
def R_is_tuple_of (args : List PyData) (d : PyData) : Prop := ∃ (xs : List PyData) (n : Int), args = [.tuple xs, .int n] ∧ d = .bool (decide ((xs.length : Int) = n))
theorem ok_is_tuple_of (L : Lib K mg fns bls) : Cal P w K mg base "is_tuple_of" 1 (spP R_is_tuple_of) := by
  refine cal_pure (N := ["thing", "many"]) (ps := ["thing", "many"]) (k := 0) L 4 rfl ⟨rfl, rfl, rfl, by decide +kernel, rfl, by decide +kernel, by decide +kernel⟩ (bind2 fun _ _ _ _ _ _ _ _ => rfl) ?_ ?_
  · rintro args d ⟨_, _, rfl, _⟩; rfl
  rintro args d ⟨xs, n, rfl, rfl⟩ fa
  refine js_retE (je_and (je_isi (T := "tuple") (je_var (n := 0) rfl) (kit_tuple _) (L.bl _ (by decide)) (L.bl _ (by decide)) (by decide +kernel)) fun _ => (je_one (je_eqI (je_len (je_var (n := 0) rfl) (.t _) (L.bl _ (by decide))) (je_var (n := 1) rfl)))) ?_ rfl
  simp [isTupD]
/-- a stretch, told well -/
def R_is_stretch (args : List PyData) (d : PyData) : Prop := ∃ n s l : Int, args = [.int n, .tuple [.int s, .int l]] ∧ d = .bool true ∧ 0 ≤ s ∧ s < n ∧ 0 ≤ l ∧ l ≤ n
theorem ok_is_stretch (L : Lib K mg fns bls) : Cal P w K mg base "is_stretch" 4 (spP R_is_stretch) := by
  refine cal_pure (N := ["size", "thing"]) (ps := ["size", "thing"]) (k := 3) L 5 rfl ⟨rfl, rfl, rfl, by decide +kernel, rfl, by decide +kernel, by decide +kernel⟩ (bind2 fun _ _ _ _ _ _ _ _ => rfl) ?_ ?_
  · rintro args d ⟨_, _, _, rfl, _⟩; rfl
  rintro args d ⟨n, s, l, rfl, rfl, h1, h2, h3, h4⟩ fa
  refine js_ifNo (jt_or2 (jt_not (jt_val (je_call (ok_is_size L) (by show 2 ≤ 3; decide) (ja_cons (je_var (n := 0) rfl) ja_nil) ⟨_, rfl, rfl⟩))) fun _ => (jt_not (jt_val (je_call (ok_is_tuple_of L) (by show 1 ≤ 3; decide) (ja_cons (je_var (n := 1) rfl) (ja_cons je_int ja_nil)) ⟨_, _, rfl, rfl⟩)))) ?_ ?_
  · simp; omega
  refine js_retE (je_and (je_call (ok_is_index L) (by show 3 ≤ 3; decide) (ja_cons (je_ixT (je_var (n := 1) rfl) je_int rfl) (ja_cons (je_var (n := 0) rfl) ja_nil)) ⟨_, _, rfl, rfl⟩) fun _ => (je_and (je_call (ok_is_number L) (by show 2 ≤ 3; decide) (ja_cons (je_ixT (je_var (n := 1) rfl) je_int rfl) ja_nil) ⟨_, rfl, rfl⟩) fun _ => (je_one (je_le (je_ixT (je_var (n := 1) rfl) je_int rfl) (je_var (n := 0) rfl))))) ?_ rfl
  simp [h1, h2, h3, h4]
def R_lead_of (args : List PyData) (d : PyData) : Prop := ∃ ws, args = [tI ws] ∧ d = leadD ws
theorem ok_lead_of (L : Lib K mg fns bls) : Cal P w K mg base "lead_of" 1 (spP R_lead_of) := by
  refine cal_pure (N := ["word", "place", "digit"]) (ps := ["word"]) (k := 0) L 6 rfl ⟨rfl, rfl, rfl, by decide +kernel, rfl, by decide +kernel, by decide +kernel⟩ (bind1 fun _ _ _ _ _ _ _ => rfl) ?_ ?_
  · rintro args d ⟨_, rfl, _⟩; rfl
  rintro args d ⟨ws, rfl, rfl⟩ fa
  refine js_forM (P := fun i ds' => (∀ j < i, gI ws j = 0) ∧ ∃ a b, ds' = [.val (tI ws), a, b]) (jw_enumT (j1 := 1) (j2 := 2) (je_var (n := 0) rfl) (L.bl _ (by decide))) (pg_twoS (j1 := 1) (j2 := 2)) ⟨fun j hj => absurd hj (Nat.not_lt_zero _), _, _, rfl⟩ (fun i a ds' hi hP => ?_) fun ds' hP => ?_
  · obtain ⟨h0, u, v, rfl⟩ := hP
    rw [enumI_get] at hi
    cases e : ws[i]? with
    | none => rw [e] at hi; cases hi
    | some y =>
      rw [e] at hi
      cases hi
      have hl := (List.getElem?_eq_some_iff.mp e).1
      have ey : gI ws i = y := by rw [gI_get hl] at e; exact Option.some.inj e
      refine js_iff (jt_neI (je_var (n := 2) rfl) je_int) (fun hc => ?_) fun hc => ?_
      · refine js_ret (je_var (n := 1) rfl) ?_
        rw [leadD_some (lead_of_first hl (by rw [ey]; simpa using hc) h0)]
      · refine js_nil (js_nil ⟨fun j hj => ?_, _, _, rfl⟩)
        rcases Nat.lt_succ_iff_lt_or_eq.mp hj with q | q
        · exact h0 j q
        · rw [q, ey]; simpa using hc
  · obtain ⟨h0, u, v, rfl⟩ := hP
    refine js_ret je_non ?_
    rw [leadD_none (lead_of_zero fun j hj => h0 j (by unfold enumI; rw [List.length_mapIdx]; exact hj))]
end
end Sh


set_option Elab.async false
set_option linter.all false
set_option maxRecDepth 100000
set_option maxHeartbeats 40000000
set_option autoImplicit false
/-! W2: spanwork -/
namespace Sh
open PySem PySem.Spec
      PyProof.Rows L2
section
variable {P : Program} {w : World} {K :
      PySem.W.Frag} {mg : Str → Option Value} {base : Heap}
theorem cmul_l {i j : Int} (h1 : -1000000 ≤ i) (h2 : i ≤ 1000000) : CMul i j := .inl ⟨by omega, by omega⟩
theorem atI_int {ws : List Int} {i : Nat} (h : i < ws.length) : atI (ws.map PyData.int) (i : Int) = some (.int (gI ws i)) := by
  have e : ixN (ws.map PyData.int).length (i : Int) = some i := by
    unfold ixN
    rw [List.length_map]
    simp [h]
  unfold atI
  rw [e]
  show (ws.map PyData.int)[i]? = _
  rw [List.getElem?_map, gI_get h]
  rfl
theorem atI_nat {xs : List PyData} {i : Nat} {d : PyData} (h : xs[i]? = some d) : atI xs (i : Int) = some d := by
  have hl := (List.getElem?_eq_some_iff.mp h).1
  unfold atI
  have e : ixN xs.length (i : Int) = some i := by unfold ixN; simp [hl]
  rw [e]
  exact h
def R_inverse_in (args : List PyData) (d : PyData) : Prop := ∃ p e : Int, args = [.int p, .int e] ∧ d = .int (invI p e) ∧ isP p ∧ 0 < e ∧ e < p
theorem ok_inverse_in (L : Lib K mg fns bls) : Cal P w K mg base "inverse_in" 1 (spP R_inverse_in) := by
  refine cal_pure (N := ["prime", "digit", "one"]) (ps := ["prime", "digit"]) (k := 0) L 7 rfl ⟨rfl, rfl, rfl, by decide +kernel, rfl, by decide +kernel, by decide +kernel⟩ (bind2 fun _ _ _ _ _ _ _ _ => rfl) ?_ ?_
  · rintro args d ⟨_, _, rfl, _⟩; rfl
  rintro args d ⟨p, e, rfl, rfl, hp, h0, h1⟩ fa
  have hp1 := hp.two
  have hp2 := hp.le
  refine js_retE (je_ixL (je_lcf (own := [("one", 2)]) rfl (jw_range2 (j := 2) je_int (je_var (n := 0) rfl) (L.bl _ (by decide)) ⟨by omega, by omega, by omega, by omega⟩) (pg_nameS (j := 2)) (fun one hm => (jt_eqI (je_mod (je_mul (je_var (n := 2) rfl) (je_var (n := 1) rfl) (cmul_l (by have := mem_rangeI.mp hm; omega) (by have := mem_rangeI.mp hm; omega))) (je_var (n := 0) rfl) (by omega)) je_int)) (fun one hm hp => (je_var (n := 2) rfl)) (by rw [len_rangeI]; omega)) je_int (d := .int (invI p e)) ?_) rfl rfl
  obtain ⟨x, a, b, c⟩ := inv_ex hp h0 h1
  have hm : x ∈ (rangeI 1 p).filter fun one => decide (one * e % p = 1) := List.mem_filter.mpr ⟨mem_rangeI.mpr ⟨a, b⟩, decide_eq_true c⟩
  refine atI_nat (i := 0) ?_
  unfold invI
  cases h : (rangeI 1 p).filter fun one => decide (one * e % p = 1) with
  | nil => rw [h] at hm; cases hm
  | cons y l => rfl
def R_times_by (args : List PyData) (d : PyData) : Prop := ∃ (p e : Int) (ws : List Int), args = [.int p, .int e, tI ws] ∧ d = tI (timesI p e ws) ∧ 0 < p ∧ ws.length ≤ 1000 ∧ ∀ x ∈ ws, -1000 ≤ x ∧ x ≤ 1000
theorem ok_times_by (L : Lib K mg fns bls) : Cal P w K mg base "times_by" 1 (spP R_times_by) := by
  refine cal_pure (N := ["prime", "digit", "word", "one"]) (ps := ["prime", "digit", "word"]) (k := 0) L 8 rfl ⟨rfl, rfl, rfl, by decide +kernel, rfl, by decide +kernel, by decide +kernel⟩ (bind3 fun _ _ _ _ _ _ _ _ _ => rfl) ?_ ?_
  · rintro args d ⟨_, _, _, rfl, _⟩; rfl
  rintro args d ⟨p, e, ws, rfl, rfl, hp, hl, hb⟩ fa
  refine js_retE (je_tupleL (je_lcm (own := [("one", 3)]) rfl (jw_tup (j := 3) (je_var (n := 2) rfl)) (pg_nameS (j := 3)) (fun one hm => (je_mod (je_mul (je_var (n := 3) rfl) (je_var (n := 1) rfl) (cmul_l (by have := hb one hm; omega) (by have := hb one hm; omega))) (je_var (n := 0) rfl) hp)) (by omega)) (L.bl _ (by decide))) ?_ rfl
  unfold tI tupE timesI
  rw [List.map_map]
  rfl
def R_added_by (args : List PyData) (d : PyData) : Prop := ∃ (p : Int) (a b : List Int), args = [.int p, tI a, tI b] ∧ d = tI (addI p a b) ∧ a.length ≤ 1000
theorem ok_added_by (L : Lib K mg fns bls) : Cal P w K mg base "added_by" 1 (spP R_added_by) := by
  refine cal_pure (N := ["prime", "one", "other", "digit", "more"]) (ps := ["prime", "one", "other"]) (k := 0) L 9 rfl ⟨rfl, rfl, rfl, by decide +kernel, rfl, by decide +kernel, by decide +kernel⟩ (bind3 fun _ _ _ _ _ _ _ _ _ => rfl) ?_ ?_
  · rintro args d ⟨_, _, _, rfl, _⟩; rfl
  rintro args d ⟨p, a, b, rfl, rfl, hl⟩ fa
  refine js_retE (je_tupleL (je_lcm (own := [("digit", 3), ("more", 4)]) rfl (jw_zipT (j1 := 3) (j2 := 4) (je_var (n := 1) rfl) (je_var (n := 2) rfl) (L.bl _ (by decide))) (pg_twoS (j1 := 3) (j2 := 4)) (fun q hm => (je_iteI (jt_ge (je_add (je_var (n := 3) rfl) (je_var (n := 4) rfl)) (je_var (n := 0) rfl)) (fun _ => (je_sub (je_add (je_var (n := 3) rfl) (je_var (n := 4) rfl)) (je_var (n := 0) rfl))) fun _ => (je_add (je_var (n := 3) rfl) (je_var (n := 4) rfl)))) (by rw [List.length_zip]; omega)) (L.bl _ (by decide))) ?_ rfl
  unfold tI tupE addI
  rw [List.map_map]
  congr 1
  refine List.map_congr_left fun q _ => ?_
  simp only [Function.comp, decide_eq_true_eq]
def R_less_times (args : List PyData) (d : PyData) : Prop := ∃ (p e : Int) (ws rs : List Int), args = [.int p, tI ws, .int e, tI rs] ∧ d = tI (lessI p ws e rs) ∧ 0 < p ∧ ws.length ≤ 1000 ∧ -1000 ≤ e ∧ e ≤ 1000
theorem ok_less_times (L : Lib K mg fns bls) : Cal P w K mg base "less_times" 1 (spP R_less_times) := by
  refine cal_pure (N := ["prime", "word", "digit", "row", "one", "other"]) (ps := ["prime", "word", "digit", "row"]) (k := 0) L 10 rfl ⟨rfl, rfl, rfl, by decide +kernel, rfl, by decide +kernel, by decide +kernel⟩ (bind4 fun _ _ _ _ _ _ _ _ _ _ => rfl) ?_ ?_
  · rintro args d ⟨_, _, _, _, rfl, _⟩; rfl
  rintro args d ⟨p, e, ws, rs, rfl, rfl, hp, hl, h0, h1⟩ fa
  refine js_retE (je_tupleL (je_lcm (own := [("one", 4), ("other", 5)]) rfl (jw_zipT (j1 := 4) (j2 := 5) (je_var (n := 1) rfl) (je_var (n := 3) rfl) (L.bl _ (by decide))) (pg_twoS (j1 := 4) (j2 := 5)) (fun q hm => (je_mod (je_sub (je_var (n := 4) rfl) (je_mul (je_var (n := 2) rfl) (je_var (n := 5) rfl) (cmul_l (by omega) (by omega)))) (je_var (n := 0) rfl) hp)) (by rw [List.length_zip]; omega)) (L.bl _ (by decide))) ?_ rfl
  unfold tI tupE lessI
  rw [List.map_map]
  rfl
theorem wd_dig {p : Int} {n i : Nat} {ws : List Int} (hp : isP p) (h : Wd p n ws) : -1000 ≤ gI ws i ∧ gI ws i ≤ 1000 := by
  have := hp.two
  have := hp.le
  by_cases hi : i < n
  · have := h.get hi (by omega); omega
  · rw [gI_out (by rw [h.1]; omega)]; omega
/-- rows whose leads are told -/
def R_rest_by (args : List PyData) (d : PyData) : Prop := ∃ (p : Int) (n : Nat) (rows : List (List Int)) (ws : List Int), args = [.int p, lTI rows, tI ws] ∧ d = tI (restI p rows ws) ∧ isP p ∧ n ≤ 100 ∧ Wd p n ws ∧ (∀ r ∈ rows, Wd p n r ∧ lead r ≠ none)
theorem ok_rest_by (L : Lib K mg fns bls) : Cal P w K mg base "rest_by" 2 (spP R_rest_by) := by
  refine cal_pure (N := ["prime", "rows", "word", "rest", "row"]) (ps := ["prime", "rows", "word"]) (k := 1) L 11 rfl ⟨rfl, rfl, rfl, by decide +kernel, rfl, by decide +kernel, by decide +kernel⟩ (bind3 fun _ _ _ _ _ _ _ _ _ => rfl) ?_ ?_
  · rintro args d ⟨_, _, _, _, rfl, _⟩; rfl
  rintro args d ⟨p, n, rows, ws, rfl, rfl, hp, hn, hw, hr⟩ fa
  have hp1 := hp.two
  have hp2 := hp.le
  refine js_asgE (i := 3) (je_var (n := 2) rfl) rfl ?_
  refine js_forM (P := fun i ds' => ∃ a, ds' = [.val (.int p), .val (lTI rows), .val (tI ws), .val (tI (restI p (rows.take i) ws)), a]) (jw_list (j := 4) (je_var (n := 1) rfl)) (pg_nameS (j := 4)) ⟨_, rfl⟩ (fun i a ds' hi hP => ?_) fun ds' hP => ?_
  · obtain ⟨u, rfl⟩ := hP
    obtain ⟨ha, hla⟩ := hr a (List.mem_of_getElem? hi)
    cases q : lead a with
    | none => exact absurd q hla
    | some l =>
      have hl := (lead_some q).1
      have hw' : Wd p n (restI p (rows.take i) ws) := rest_wd (by omega) (fun s hs => (hr s (List.mem_of_mem_take hs)).1) hw
      have e : restI p (rows.take (i + 1)) ws = lessI p (restI p (rows.take i) ws) (gI (restI p (rows.take i) ws) l) a := by
        rw [take_snoc hi]
        unfold restI
        rw [List.foldl_append, ← ldg_some q]
        rfl
      refine js_asgE (i := 3) (je_call (ok_less_times L) (by show 1 ≤ 1; decide) (ja_cons (je_var (n := 0) rfl) (ja_cons (je_var (n := 3) rfl) (ja_cons (je_ixT (je_var (n := 3) rfl) (je_call (d := .int (l : Nat)) (ok_lead_of L) (by show 1 ≤ 1; decide) (ja_cons (je_var (n := 4) rfl) ja_nil) ⟨a, rfl, (leadD_some q).symm⟩) (atI_int (by rw [hw'.1, ← ha.1]; exact hl))) (ja_cons (je_var (n := 4) rfl) ja_nil))))
        ⟨p, _, _, a, rfl, rfl, by omega, by rw [hw'.1]; omega, (wd_dig hp hw').1, (wd_dig hp hw').2⟩) rfl (js_nil (by dsimp only; rw [e]; exact ⟨_, rfl⟩))
  · obtain ⟨u, rfl⟩ := hP
    refine js_retE (je_var (n := 3) rfl) ?_ rfl
    rw [List.take_length]
def R_led_row (args : List PyData) (d : PyData) : Prop := ∃ (p : Int) (n : Nat) (ws : List Int), args = [.int p, tI ws] ∧ d = tI (ledI p ws) ∧ isP p ∧ n ≤ 100 ∧ Wd p n ws ∧ lead ws ≠ none
theorem ok_led_row (L : Lib K mg fns bls) : Cal P w K mg base "led_row" 2 (spP R_led_row) := by
  refine cal_pure (N := ["prime", "word"]) (ps := ["prime", "word"]) (k := 1) L 12 rfl ⟨rfl, rfl, rfl, by decide +kernel, rfl, by decide +kernel, by decide +kernel⟩ (bind2 fun _ _ _ _ _ _ _ _ => rfl) ?_ ?_
  · rintro args d ⟨_, _, _, rfl, _⟩; rfl
  rintro args d ⟨p, n, ws, rfl, rfl, hp, hn, hw, hl⟩ fa
  have hp1 := hp.two
  have hp2 := hp.le
  cases q : lead ws with
  | none => exact absurd q hl
  | some l =>
    obtain ⟨l1, l2, l3⟩ := lead_some q
    have bd := hw.get (i := l) (by rw [← hw.1]; exact l1) (by omega)
    refine js_retE (je_call (ok_times_by L) (by show 1 ≤ 1; decide) (ja_cons (je_var (n := 0) rfl) (ja_cons (je_call (ok_inverse_in L) (by show 1 ≤ 1; decide) (ja_cons (je_var (n := 0) rfl) (ja_cons (je_ixT (je_var (n := 1) rfl) (je_call (d := .int (l : Nat)) (ok_lead_of L) (by show 1 ≤ 1; decide) (ja_cons (je_var (n := 1) rfl) ja_nil) ⟨ws, rfl, (leadD_some q).symm⟩) (atI_int l1)) ja_nil)) ⟨p, _, rfl, rfl, hp, by omega, bd.2⟩) (ja_cons (je_var (n := 1) rfl) ja_nil)))
      ⟨p, _, ws, rfl, rfl, by omega, by rw [hw.1]; omega, fun x hx => by have := hw.2 x hx; omega⟩) ?_ rfl
    unfold ledI
    rw [ldg_some q]
def R_reduced_by (args : List PyData) (d : PyData) : Prop := ∃ (p : Int) (n : Nat) (words : List (List Int)), args = [.int p, lTI words] ∧ d = tTI (reducedI p words) ∧ isP p ∧ n ≤ 100 ∧ words.length ≤ 60 ∧ ∀ x ∈ words, Wd p n x
theorem ok_reduced_by (L : Lib K mg fns bls) : Cal P w K mg base "reduced_by" 3 (spP R_reduced_by) := by
  refine cal_pure (N := ["prime", "words", "rows", "word", "rest", "row", "one"]) (ps := ["prime", "words"]) (k := 2) L 13 rfl ⟨rfl, rfl, rfl, by decide +kernel, rfl, by decide +kernel, by decide +kernel⟩ (bind2 fun _ _ _ _ _ _ _ _ => rfl) ?_ ?_
  · rintro args d ⟨_, _, _, rfl, _⟩; rfl
  rintro args d ⟨p, n, words, rfl, rfl, hp, hn, hl, hw⟩ fa
  have hp1 := hp.two
  have hp2 := hp.le
  refine js_asgE (i := 2) (je_lst ja_nil) (d := lTI []) rfl ?_
  refine js_forM (P := fun i ds' => ∃ a b c e, ds' = [.val (.int p), .val (lTI words), .val (lTI (gaussI p (words.take i))), a, b, c, e]) (jw_list (j := 3) (je_var (n := 1) rfl)) (pg_nameS (j := 3)) ⟨_, _, _, _, rfl⟩ (fun i a ds' hi hP => ?_) fun ds' hP => ?_
  · obtain ⟨u1, u2, u3, u4, rfl⟩ := hP
    have ha := hw a (List.mem_of_getElem? hi)
    have hib : i < words.length := (List.getElem?_eq_some_iff.mp hi).1
    obtain ⟨g1, _, g3, _⟩ := gauss_take hp hw i (by omega)
    have rl : ∀ r ∈ gaussI p (words.take i), Wd p n r ∧ lead r ≠ none := fun r hr => ⟨g1.wd r hr, by rw [(g1.lead hr).1]; simp⟩
    have hrest := rest_wd (p := p) (n := n) (ws := a) (by omega) g1.wd ha
    have eg : gaussI p (words.take (i + 1)) = stepI p (gaussI p (words.take i)) a := by rw [take_snoc hi, gauss_snoc]
    refine js_asgE (i := 4) (je_call (ok_rest_by L) (by show 2 ≤ 2; decide) (ja_cons (je_var (n := 0) rfl) (ja_cons (je_var (n := 2) rfl) (ja_cons (je_var (n := 3) rfl) ja_nil))) ⟨p, n, _, a, rfl, rfl, hp, hn, ha, rl⟩) rfl ?_
    cases q : lead (restI p (gaussI p (words.take i)) a) with
    | none =>
      refine js_iff (jt_notN (je_call (d := .none) (ok_lead_of L) (by show 1 ≤ 2; decide) (ja_cons (je_var (n := 4) rfl) ja_nil) ⟨_, rfl, (leadD_none q).symm⟩)) (fun hc => by cases hc) fun hc => ?_
      refine js_nil (js_nil (by dsimp only; rw [eg, step_none q]; exact ⟨_, _, _, _, rfl⟩))
    | some l =>
      obtain ⟨l1, l2, l3⟩ := led_spec hp hrest q
      have el := ldg_some l2
      refine js_iff (jt_notN (je_call (d := .int (l : Nat)) (ok_lead_of L) (by show 1 ≤ 2; decide) (ja_cons (je_var (n := 4) rfl) ja_nil) ⟨_, rfl, (leadD_some q).symm⟩)) (fun hc => ?_) fun hc => by cases hc
      refine js_asgE (i := 5) (je_call (ok_led_row L) (by show 2 ≤ 2; decide) (ja_cons (je_var (n := 0) rfl) (ja_cons (je_var (n := 4) rfl) ja_nil)) ⟨p, n, _, rfl, rfl, hp, hn, hrest, by rw [q]; simp⟩) rfl ?_
      refine js_asgE (i := 2) (je_lst (ja_star (je_lcm (own := [("one", 6)]) rfl (jw_list (j := 6) (je_var (n := 2) rfl)) (pg_nameS (j := 6)) (fun one hm => (je_call (d := tI (lessI p one (gI one l) (ledI p (restI p (gaussI p (words.take i)) a)))) (ok_less_times L) (by show 1 ≤ 2; decide) (ja_cons (je_var (n := 0) rfl) (ja_cons (je_var (n := 6) rfl) (ja_cons (je_ixT (je_var (n := 6) rfl) (je_call (d := .int (l : Nat)) (ok_lead_of L) (by show 1 ≤ 2; decide) (ja_cons (je_var (n := 5) rfl) ja_nil) ⟨_, rfl, (leadD_some l2).symm⟩) (atI_int (by rw [(g1.wd one hm).1, ← l1.1]; exact (lead_some l2).1))) (ja_cons (je_var (n := 5) rfl) ja_nil))))
          ⟨p, _, one, _, rfl, rfl, by omega, by rw [(g1.wd one hm).1]; omega, (wd_dig hp (g1.wd one hm)).1, (wd_dig hp (g1.wd one hm)).2⟩)) (by omega)) (.l _) (ja_cons (je_var (n := 5) rfl) ja_nil)) (by simp; omega)) (d := lTI (gaussI p (words.take (i + 1)))) ?_ (js_nil (js_nil ⟨_, _, _, _, rfl⟩))
      rw [eg, step_some q, el]
      unfold lTI lstE
      rw [List.map_append, List.map_map]
      rfl
  · obtain ⟨u1, u2, u3, u4, rfl⟩ := hP
    rw [List.take_length]
    obtain ⟨g1, _, g3, _⟩ := gauss_red hp hw
    refine js_retE (je_tupleL (je_rev (je_sortT (B := p) (dd := max n 1) (by omega) (je_var (n := 2) rfl) (by omega) (fun r hr => ⟨by have := (g1.lead hr).2.2.1; rw [(g1.wd r hr).1]; omega, (g1.wd r hr).2⟩) (L.bl _ (by decide)))) (L.bl _ (by decide))) ?_ rfl
    unfold tTI tupE reducedI
    rw [List.map_reverse]
def R_rank_among (args : List PyData) (d : PyData) : Prop := ∃ (p : Int) (n : Nat) (words : List (List Int)), args = [.int p, lTI words] ∧ d = .int ((reducedI p words).length : Nat) ∧ isP p ∧ n ≤ 100 ∧ words.length ≤ 60 ∧ ∀ x ∈ words, Wd p n x
theorem ok_rank_among (L : Lib K mg fns bls) : Cal P w K mg base "rank_among" 4 (spP R_rank_among) := by
  refine cal_pure (N := ["prime", "words"]) (ps := ["prime", "words"]) (k := 3) L 14 rfl ⟨rfl, rfl, rfl, by decide +kernel, rfl, by decide +kernel, by decide +kernel⟩ (bind2 fun _ _ _ _ _ _ _ _ => rfl) ?_ ?_
  · rintro args d ⟨_, _, _, rfl, _⟩; rfl
  rintro args d ⟨p, n, words, rfl, rfl, hp, hn, hl, hw⟩ fa
  refine js_retE (je_len (je_call (ok_reduced_by L) (by show 3 ≤ 3; decide) (ja_cons (je_var (n := 0) rfl) (ja_cons (je_var (n := 1) rfl) ja_nil)) ⟨p, n, words, rfl, rfl, hp, hn, hl, hw⟩) (.t _) (L.bl _ (by decide))) ?_ rfl
  rw [List.length_map]
def R_unit_by (args : List PyData) (d : PyData) : Prop := ∃ (many : Nat) (k : Int), args = [.int (many : Nat), .int k] ∧ d = tI (unitI many k) ∧ many ≤ 1000
theorem ok_unit_by (L : Lib K mg fns bls) : Cal P w K mg base "unit_by" 1 (spP R_unit_by) := by
  refine cal_pure (N := ["many", "k", "j"]) (ps := ["many", "k"]) (k := 0) L 15 rfl ⟨rfl, rfl, rfl, by decide +kernel, rfl, by decide +kernel, by decide +kernel⟩ (bind2 fun _ _ _ _ _ _ _ _ => rfl) ?_ ?_
  · rintro args d ⟨_, _, rfl, _⟩; rfl
  rintro args d ⟨m, k, rfl, rfl, hm⟩ fa
  refine js_retE (je_tupleL (je_lcm (own := [("j", 2)]) rfl (jw_range1 (j := 2) (je_var (n := 0) rfl) (L.bl _ (by decide)) (by omega)) (pg_nameS (j := 2)) (fun j hm => (je_iteI (jt_eqI (je_var (n := 2) rfl) (je_var (n := 1) rfl)) (fun _ => je_int) fun _ => je_int)) (by rw [len_rangeI]; omega)) (L.bl _ (by decide))) ?_ rfl
  unfold tI tupE unitI rangeI
  rw [List.map_map,
        List.map_map]
  have e : ((m : Int) - 0).toNat = m := by omega
  rw [e]
  congr 1
  refine List.map_congr_left fun q _ => ?_
  simp only [Function.comp, decide_eq_true_eq, Int.zero_add]
end
end Sh


set_option Elab.async false
set_option linter.all false
set_option maxRecDepth 100000
set_option maxHeartbeats 40000000
set_option autoImplicit false
/-! M5: what the further defs compute -/
namespace Sh
open PySem L2
/-! ### weights -/
def stepW (p : Int) (wide many : Nat) (rows : List (List Int)) (q : Int × List Int) : List (List Int) :=
  let rest := restI p rows (q.2 ++ unitI many q.1)
  match lead (rest.take wide) with
  | none => rows
  | some _ => rows ++ [ledI p rest]
def rowsW (p : Int) (wide : Nat) (vectors : List (List Int)) : List (List Int) := (enumI vectors).foldl (stepW p wide vectors.length) []
def weightsI (p : Int) (vectors : List (List Int)) (goal : List Int) : Option (List Int) :=
  let rest := restI p (rowsW p goal.length vectors) (goal ++ unitI vectors.length (-1))
  match lead (rest.take goal.length) with
  | none => some ((rest.drop goal.length).map fun d => (-d) % p)
  | some _ => none
def optD : Option (List Int) → PyData
  | none => .none
  | some ws => tI ws
/-! ### checks -/
def checkI (p : Int) (n : Nat) (rows : List (List Int)) (f : Nat) : List Int := (unitI n f).mapIdx fun i d => dgetD (rows.map fun r => ((ldg r : Nat), (-gI r f) % p)) (i : Nat) d
def freeI (n : Nat) (rows : List (List Int)) : List Nat := (List.range n).filter fun f => !((rows.map ldg).contains f)
def checksI (p : Int) (n : Nat) (rows : List (List Int)) : List (List Int) := reducedI p ((freeI n rows).map (checkI p n rows))
/-! ### columns, places -/
def colI (rows : List (List Int)) (k : Nat) : List Int := rows.map fun r => gI r k
def ringI (n : Nat) (s : Nat) (l : Nat) : List Nat := (List.range l).map fun k => (s + k) % n
def lN (ks : List Nat) : PyData := lstE (fun k : Nat => .int (k : Nat)) ks
def keptI (n : Nat) (places : List Nat) : List Nat := (List.range n).filter fun k => !places.contains k
def wordsI (p : Int) (n : Nat) (rows : List (List Int)) (places : List Nat) : List (List Int) :=
  checksI p n (reducedI p (checksI p n rows ++ (keptI n places).map fun k : Nat => unitI n (k : Int)))
/-! ### patterns -/
def tAt (ts : List Int) (k : Nat) : Int := gI ts (k % ts.length)
def rankI (ts : List Int) (s l : Nat) : Int := (l : Nat) - ((((List.range l).filter fun k : Nat => decide ((k : Int) + tAt ts (s + k) < (l : Nat))).length : Nat) : Int)
def landI (ts : List Int) (i : Nat) : Int := (i : Nat) + tAt ts i
def ballsI (ts : List Int) : Int := ts.sum / (ts.length : Nat)
def pairsI (ts : List Int) : List (List Int) := (List.range ts.length).map fun k : Nat => [landI ts k % (ts.length : Nat), (k : Nat)]
def thrownI (ts : List Int) : List Int := (sortC 1000 (pairsI ts)).map fun q => gI q 1
def openI (ts : List Int) (s l : Nat) : Int := ballsI ts - rankI ts ((s + l) % ts.length) (ts.length - l)
/-! ### digits -/
def dgs (ds : List (Option Int)) : PyData := tupE digD ds
def dgl (ds : List (Option Int)) : PyData := lstE digD ds
def lostI (ds : List (Option Int)) : List Nat := (List.range ds.length).filter fun k => (ds.getD k none).isNone
def heldI (ds : List (Option Int)) : List Nat := (List.range ds.length).filter fun k => (ds.getD k none).isSome
def begunI (ds : List (Option Int)) : List Nat := (lostI ds).filter fun k => (ds.getD (if k = 0 then ds.length - 1 else k - 1) none).isSome
def toldI (ds : List (Option Int)) (ks : List Nat) : List Int := ks.map fun k => (ds.getD k none).getD 0
def sumI (p : Int) (a b : List Int) : Int := ((a.zip b).map fun q => q.1 * q.2).sum % p
/-- the digits at some places -/
def atP (ks : List Nat) (r : List Int) : List Int := ks.map fun k => gI r k
def barsI (p : Int) (rows : List (List Int)) (ds : List (Option Int)) : List (List Int) :=
  (checksI p (heldI ds).length (reducedI p (rows.map (atP (heldI ds))))).filter fun one => decide (sumI p one (toldI ds (heldI ds)) ≠ 0)
def againstI (p : Int) (n : Nat) (rows : List (List Int)) (ds : List (Option Int)) : List Int :=
  (List.range n).map fun k : Nat => dgetD (((heldI ds).map fun k : Nat => (k : Int)).zip ((barsI p rows ds).headD [])) (k : Nat) 0
section
variable {p : Int} {n m wide : Nat} {ws vs rs : List Int} {rows words : List (List Int)}
theorem unit_len (many : Nat) (k : Int) : (unitI many k).length = many := by unfold unitI; rw [List.length_map, List.length_range]
theorem unit_wd (hp : 2 ≤ p) (many : Nat) (k : Int) : Wd p many (unitI many k) := by
  refine ⟨unit_len _ _, fun x hx => ?_⟩
  unfold unitI at hx
  obtain ⟨j, _, rfl⟩ := List.mem_map.mp hx
  split <;> omega
theorem wd_app (h : Wd p n ws) (h2 : Wd p m vs) : Wd p (n + m) (ws ++ vs) := by
  refine ⟨by rw [List.length_append, h.1, h2.1], fun x hx => ?_⟩
  rcases List.mem_append.mp
        hx with q | q
  · exact h.2 x q
  · exact h2.2 x q
theorem gI_take {i k : Nat} (h : i < k) : gI (ws.take k) i = gI ws i := by unfold gI; rw [List.getD_eq_getElem?_getD, List.getD_eq_getElem?_getD, List.getElem?_take_of_lt h]
/-- a lead among the first ones -/
theorem lead_take {l k : Nat} (h : lead (ws.take k) = some l) : lead ws = some l ∧ l < k := by
  obtain ⟨a, b, c⟩ := lead_some h
  rw [List.length_take] at a
  have hk : l < k := by omega
  refine ⟨lead_of_first (by omega) (by rw [← gI_take hk]; exact b) fun j hj => ?_, hk⟩
  rw [← gI_take (k := k) (by omega)]
  exact c j hj
theorem stepW_none {q : Int × List Int} (h : lead ((restI p rows (q.2 ++ unitI m q.1)).take wide) = none) : stepW p wide m rows q = rows := by unfold stepW; simp only [h]
theorem stepW_some {q : Int × List Int} {l : Nat} (h : lead ((restI p rows (q.2 ++ unitI m q.1)).take wide) = some l) : stepW p wide m rows q = rows ++ [ledI p (restI p rows (q.2 ++ unitI m q.1))] := by unfold stepW; simp only [h]
/-- the rows so far: words with leads among the first -/
theorem rowsW_ok (hp : isP p) : ∀ (l : List (Int × List Int)) (rows : List (List Int)), (∀ q ∈ l, Wd p wide q.2) → (∀ r ∈ rows, Wd p (wide + m) r ∧ lead r ≠ none) → ∀ r ∈ l.foldl (stepW p wide m) rows, Wd p (wide + m) r ∧ lead r ≠ none
  | [], rows, _, h => h
  | q :: l, rows, hl, h => by
    refine rowsW_ok hp l _ (fun q hq => hl q (List.mem_cons_of_mem _ hq)) fun r hr => ?_
    have hp2 := hp.two
    have hw := rest_wd (p := p) (n := wide + m) (ws := q.2 ++ unitI m q.1) (by omega) (fun r hr => (h r hr).1) (wd_app (hl q List.mem_cons_self) (unit_wd hp2 _ _))
    cases e : lead ((restI p rows (q.2 ++ unitI m q.1)).take wide) with
    | none =>
      rw [stepW_none e] at hr
      exact h r hr
    | some l =>
      rw [stepW_some e] at hr
      rcases List.mem_append.mp hr with z | z
      · exact h r z
      · rw
              [List.mem_singleton.mp z]
        obtain ⟨a, b, _⟩ := led_spec hp hw (lead_take e).1
        exact ⟨a, by rw [b]; simp⟩
theorem check_wd (hp : isP p) (f : Nat) : Wd p n (checkI p n rows f) := by
  have hp2 := hp.two
  refine ⟨by unfold checkI; rw [List.length_mapIdx, unit_len], fun x hx => ?_⟩
  obtain ⟨i, hi, rfl⟩ :=
        List.getElem_of_mem hx
  simp only [checkI, List.getElem_mapIdx]
  unfold dgetD
  cases q : List.find? (fun kv => decide (kv.1 = (i : Int))) (rows.map fun r => (((ldg r : Nat) : Int), (-gI r f) % p)) with
  | none =>
    have := (unit_wd hp2 n (f : Int)).2 _ (List.getElem_mem (by unfold checkI at hi; rw [List.length_mapIdx] at hi; exact hi))
    exact this
  | some kv =>
    have hm := List.mem_of_find?_eq_some q
    obtain ⟨r, _, rfl⟩ := List.mem_map.mp hm
    exact modLt (by omega) _
theorem free_len : (freeI n rows).length ≤ n := by unfold freeI; exact Nat.le_trans (List.length_filter_le _ _) (by rw [List.length_range]; exact Nat.le_refl _)
theorem checks_red (hp : isP p) : Red p n (checksI p n rows) ∧ Asc (checksI p n rows) ∧ SpEq p (checksI p n rows) ((freeI n rows).map (checkI p n rows)) := by
  obtain ⟨a, b, c, _⟩ := reduced_red (n := n) hp (words := (freeI n rows).map (checkI p n rows)) fun w hw => by
    obtain ⟨f, _, rfl⟩ := List.mem_map.mp hw
    exact check_wd hp f
  exact ⟨a, b, c⟩
theorem nodup_lt : ∀ (n : Nat) (l : List Nat), l.Nodup → (∀ x ∈ l, x < n) → l.length ≤ n
  | 0, l, _, h => by
    cases l with
    | nil => exact Nat.le_refl _
    | cons x l => exact absurd (h x List.mem_cons_self) (Nat.not_lt_zero _)
  | n + 1, l, hn, h => by
    by_cases hm : n ∈ l
    · have h1 := nodup_lt n (l.erase n) (hn.erase n) fun x hx => by
        obtain ⟨a, b⟩ := hn.mem_erase_iff.mp hx
        have := h x b
        omega
      rw [List.length_erase_of_mem hm] at h1
      omega
    · have := nodup_lt n l hn fun x hx => by
        have := h x hx
        have : x ≠ n := fun e => hm (e ▸ hx)
        omega
      omega
theorem red_len (h : Red p n rows) : rows.length ≤ n := by
  have nd : (rows.map ldg).Nodup := by
    refine List.pairwise_map.mpr (List.Pairwise.imp_of_mem (fun {a b} ha hb q e => ?_) h.off)
    rw [e, (h.lead hb).2.1] at q
    cases q.1
  have := nodup_lt n _ nd fun x hx => by
    obtain ⟨r, hr, rfl⟩ := List.mem_map.mp hx
    exact (h.lead hr).2.2.1
  simpa using this
theorem leads_nd (h : Red p n rows) : (rows.map ldg).Nodup := by
  refine List.pairwise_map.mpr (List.Pairwise.imp_of_mem (fun {a b} ha hb q e => ?_) h.off)
  rw [e, (h.lead hb).2.1] at q
  cases q.1
end
end Sh


set_option Elab.async false
set_option linter.all false
set_option maxRecDepth 100000
set_option maxHeartbeats 40000000
set_option autoImplicit false
/-! W3: weights, checks -/
namespace Sh
open PySem PySem.Spec
      PyProof.Rows L2
theorem cut_to {α : Type} {xs : List α} {k : Nat} : cutD xs none (some (k : Int)) = xs.take k := by
  unfold cutD
  rw [HT.sIx_none, HT.sIx_nat, List.drop_zero, Nat.sub_zero]
  by_cases h : k ≤ xs.length
  · rw [Nat.min_eq_left h]
  · rw [Nat.min_eq_right
          (by omega), List.take_of_length_le (Nat.le_refl _), List.take_of_length_le (by omega)]
theorem cut_from {α : Type} {xs : List α} {k : Nat} : cutD xs (some (k : Int)) none = xs.drop k := by
  unfold cutD
  rw [HT.sIx_none, HT.sIx_nat]
  by_cases h : k ≤ xs.length
  · rw [Nat.min_eq_left h, List.take_of_length_le (by rw [List.length_drop]; omega)]
  · rw [Nat.min_eq_right (by omega), Nat.sub_self, List.take_zero, List.drop_eq_nil_of_le (by omega)]
theorem sl_to {ws : List Int} {k : Nat} : PyData.tuple (cutD (ws.map PyData.int) none (some (k : Int))) = tI (ws.take k) := by rw [cut_to, ← List.map_take]; rfl
theorem sl_from {ws : List Int} {k : Nat} : PyData.tuple (cutD (ws.map PyData.int) (some (k : Int)) none) = tI (ws.drop k) := by rw [cut_from, ← List.map_drop]; rfl
theorem map_mapIdxI {α β γ : Type} {g : β → γ} {f : Nat → α → β} {l : List α} : (l.mapIdx f).map g = l.mapIdx fun i a => g (f i a) := by
  apply List.ext_getElem?
  intro i
  simp only [List.getElem?_map, List.getElem?_mapIdx, Option.map_map]
  rfl
theorem tI_app {a b : List Int} : PyData.tuple (a.map PyData.int ++ (b.map PyData.int ++ [])) = tI (a ++ b) := by rw [List.append_nil]; unfold tI tupE; rw [List.map_append]
theorem je_slTo {S : SC} {ds : List Slot} {e hi : Expr} {xs : List PyData} {u : Int} {pos p2 : Pos} (he : JE S ds e (.tuple xs)) (hu : JE S ds hi (.int u)) : JE S ds (.Subscript e (.Slice none (some hi) none p2) pos) (.tuple (cutD xs none (some u))) := je_sliceT he (lo := none) (hi := some hi) (l := none) (u := some u) rfl hu
theorem je_slFrom {S : SC} {ds : List Slot} {e lo : Expr} {xs : List PyData} {l : Int} {pos p2 : Pos} (he : JE S ds e (.tuple xs)) (hl : JE S ds lo (.int l)) : JE S ds (.Subscript e (.Slice (some lo) none none p2) pos) (.tuple (cutD xs (some l) none)) := je_sliceT he (lo := some lo) (hi := none) (l := some l) (u := none) hl rfl
section
variable {P : Program} {w : World} {K :
      PySem.W.Frag} {mg : Str → Option Value} {base : Heap}
def R_weights_in (args : List PyData) (d : PyData) : Prop := ∃ (p : Int) (vectors : List (List Int)) (goal : List Int), args = [.int p, lTI vectors, tI goal] ∧ d = optD (weightsI p vectors goal) ∧ isP p ∧ goal.length ≤ 40 ∧ vectors.length ≤ 40 ∧ Wd p goal.length goal ∧ ∀ x ∈ vectors, Wd p goal.length x
theorem ok_weights_in (L : Lib K mg fns bls) : Cal P w K mg base "weights_in" 3 (spP R_weights_in) := by
  refine cal_pure (N := ["prime", "vectors", "goal", "rest", "many", "wide", "rows", "k", "vector", "digit"]) (ps := ["prime", "vectors", "goal"]) (k := 2) L 16 rfl ⟨rfl, rfl, rfl, by decide +kernel, rfl, by decide +kernel, by decide +kernel⟩ (bind3 fun _ _ _ _ _ _ _ _ _ => rfl) ?_ ?_
  · rintro args d ⟨_, _, _, rfl, _⟩; rfl
  rintro args d ⟨p, vectors, goal, rfl, rfl, hp, hg, hv, hgw, hvw⟩ fa
  have hp1 := hp.two
  have hp2 := hp.le
  have hall : ∀ q ∈ enumI vectors, Wd p goal.length q.2 := fun q hq => by
    obtain ⟨i, hi, e⟩ := List.getElem_of_mem hq
    have : (enumI vectors)[i]? = some q := by rw [List.getElem?_eq_getElem hi, e]
    rw [enumI_get] at this
    cases z : vectors[i]? with
    | none => rw [z] at this; cases this
    | some v =>
      rw [z] at this
      cases this
      exact hvw v (List.mem_of_getElem? z)
  have inv : ∀ i, ∀ r ∈ ((enumI vectors).take i).foldl (stepW p goal.length vectors.length) [], Wd p (goal.length + vectors.length) r ∧ lead r ≠ none := fun i =>
    rowsW_ok hp _ [] (fun q hq => hall q (List.mem_of_mem_take hq)) fun r hr => (List.not_mem_nil hr).elim
  refine js_par3 (i := 4) (j := 5) (l := 6) (je_len (je_var (n := 1) rfl) (.l _) (L.bl _ (by decide))) (je_len (je_var (n := 2) rfl) (.t _) (L.bl _ (by decide))) (je_lst ja_nil) ?_
  refine js_forM (P := fun i ds' => ∃ a b c e, ds' = [.val (.int p), .val (lTI vectors), .val (tI goal), a, .val (.int (vectors.length : Nat)), .val (.int (goal.length : Nat)), .val (lTI (((enumI vectors).take i).foldl (stepW p goal.length vectors.length) [])), b, c, e])
    (jw_enumL (j1 := 7) (j2 := 8) (je_var (n := 1) rfl) (L.bl _ (by decide))) (pg_twoS (j1 := 7) (j2 := 8)) (by rw [List.length_map, List.length_map]; exact ⟨_, _, _, _, rfl⟩) (fun i a ds' hi hP => ?_) fun ds' hP => ?_
  · obtain ⟨u1, u2, u3, u4, rfl⟩ := hP
    have ha := hall a (List.mem_of_getElem? hi)
    have hw := rest_wd (p := p) (n := goal.length + vectors.length) (rows := ((enumI vectors).take i).foldl (stepW p goal.length vectors.length) []) (ws := a.2 ++ unitI vectors.length a.1) (by omega) (fun r hr => (inv i r hr).1) (wd_app ha (unit_wd hp1 _ _))
    have st : ((enumI vectors).take (i + 1)).foldl (stepW p goal.length vectors.length) [] = stepW p goal.length vectors.length (((enumI vectors).take i).foldl (stepW p goal.length vectors.length) []) a := by rw [take_snoc hi, List.foldl_append]; rfl
    refine js_asgE (i := 3) (je_call (ok_rest_by L) (by show 2 ≤ 2; decide) (ja_cons (je_var (n := 0) rfl) (ja_cons (je_var (n := 6) rfl) (ja_cons ((je_tup (ja_star (je_var (n := 8) rfl) (.t _) (ja_star (je_call (ok_unit_by L) (by show 1 ≤ 2; decide) (ja_cons (je_var (n := 4) rfl) (ja_cons (je_var (n := 7) rfl) ja_nil)) ⟨vectors.length, a.1, rfl, rfl, by omega⟩) (.t _) ja_nil)) (by
      rw [List.length_append, List.length_append, List.length_map, List.length_map, ha.1, unit_len]; simp; omega)).is tI_app) ja_nil)))
      ⟨p, goal.length + vectors.length, _, _, rfl, rfl, hp, by omega, wd_app ha (unit_wd hp1 _ _), inv i⟩) rfl ?_
    have sl := @sl_to (restI p (((enumI vectors).take i).foldl (stepW p goal.length vectors.length) []) (a.2 ++ unitI vectors.length a.1)) goal.length
    cases q : lead ((restI p (((enumI vectors).take i).foldl (stepW p goal.length vectors.length) []) (a.2 ++ unitI vectors.length a.1)).take goal.length) with
    | none =>
      refine js_iff (jt_notN (je_call (d := .none) (ok_lead_of L) (by show 1 ≤ 2; decide) (ja_cons ((je_slTo (je_var (n := 3) rfl) (je_var (n := 5) rfl)).is sl) ja_nil) ⟨_, rfl, (leadD_none q).symm⟩)) (fun hc => by cases hc) fun hc => ?_
      exact js_nil (js_nil (by dsimp only; rw [st, stepW_none q]; exact ⟨_, _, _, _, rfl⟩))
    | some l =>
      refine js_iff (jt_notN (je_call (d := .int (l : Nat)) (ok_lead_of L) (by show 1 ≤ 2; decide) (ja_cons ((je_slTo (je_var (n := 3) rfl) (je_var (n := 5) rfl)).is sl) ja_nil) ⟨_, rfl, (leadD_some q).symm⟩)) (fun hc => ?_) fun hc => by cases hc
      refine js_asgE (i := 6) (je_lst (ja_star (je_var (n := 6) rfl) (.l _) (ja_cons (je_call (ok_led_row L) (by show 2 ≤ 2; decide) (ja_cons (je_var (n := 0) rfl) (ja_cons (je_var (n := 3) rfl) ja_nil)) ⟨p, _, _, rfl, rfl, hp, by omega, hw, by rw [(lead_take q).1]; simp⟩) ja_nil)) ?_)
        (d := lTI (((enumI vectors).take (i + 1)).foldl (stepW p goal.length vectors.length) [])) ?_ (js_nil (js_nil ⟨_, _, _, _, rfl⟩))
      · have : ∀ (l : List (Int × List Int)) (r : List (List Int)), (l.foldl (stepW p goal.length vectors.length) r).length ≤ r.length + l.length := fun l => by
          induction l with
          | nil => intro r; simp
          | cons q l ih =>
            intro r
            refine Nat.le_trans (ih _) ?_
            have : (stepW p goal.length vectors.length r q).length ≤ r.length + 1 := by
              cases z : lead ((restI p r (q.2 ++ unitI vectors.length q.1)).take goal.length) with
              | none => rw [stepW_none z]; omega
              | some l => rw [stepW_some z]; simp
            rw [List.length_cons]
            omega
        have h2 := this ((enumI vectors).take i) []
        have h3 : ((enumI vectors).take i).length ≤ vectors.length := by
          rw [List.length_take]
          unfold enumI
          rw [List.length_mapIdx]
          omega
        rw [List.length_append, List.length_map]
        rw [List.length_nil] at h2
        rw [List.length_cons, List.length_nil]
        omega
      · rw [st, stepW_some q]
        unfold lTI lstE
        rw [List.map_append]
        rfl
  · obtain ⟨u1, u2, u3, u4, rfl⟩ := hP
    have hr : ((enumI vectors).take (enumI vectors).length).foldl (stepW p goal.length vectors.length) [] = rowsW p goal.length vectors := by rw [List.take_length]; rfl
    have hi := inv (enumI vectors).length
    rw [hr] at hi ⊢
    have hw := rest_wd (p := p) (n := goal.length + vectors.length) (rows := rowsW p goal.length vectors) (ws := goal ++ unitI vectors.length (-1)) (by omega) (fun r hr => (hi r hr).1) (wd_app hgw (unit_wd hp1 _ _))
    refine js_asgE (i := 3) (je_call (ok_rest_by L) (by show 2 ≤ 2; decide) (ja_cons (je_var (n := 0) rfl) (ja_cons (je_var (n := 6) rfl) (ja_cons ((je_tup (ja_star (je_var (n := 2) rfl) (.t _) (ja_star (je_call (ok_unit_by L) (by show 1 ≤ 2; decide) (ja_cons (je_var (n := 4) rfl) (ja_cons (je_neg je_int) ja_nil)) ⟨vectors.length, -1, rfl, rfl, by omega⟩) (.t _) ja_nil)) (by
      rw [List.length_append, List.length_append, List.length_map, List.length_map, unit_len]; simp; omega)).is tI_app) ja_nil)))
      ⟨p, goal.length + vectors.length, _, _, rfl, rfl, hp, by omega, wd_app hgw (unit_wd hp1 _ _), hi⟩) rfl ?_
    have sl := @sl_to (restI p (rowsW p goal.length vectors) (goal ++ unitI vectors.length (-1))) goal.length
    have sf := @sl_from (restI p (rowsW p goal.length vectors) (goal ++ unitI vectors.length (-1))) goal.length
    cases q : lead ((restI p (rowsW p goal.length vectors) (goal ++ unitI vectors.length (-1))).take goal.length) with
    | none =>
      refine js_ret (je_if (jt_notN (je_call (d := .none) (ok_lead_of L) (by show 1 ≤ 2; decide) (ja_cons ((je_slTo (je_var (n := 3) rfl) (je_var (n := 5) rfl)).is sl) ja_nil) ⟨_, rfl, (leadD_none q).symm⟩)) (fun hc => by cases hc)
        (fun _ => (je_tupleL (je_lcm (own := [("digit", 9)]) rfl (jw_tup (j := 9) (enc := PyData.int) ((je_slFrom (je_var (n := 3) rfl) (je_var (n := 5) rfl)).is sf)) (pg_nameS (j := 9)) (fun digit hm => (je_mod (je_neg (je_var (n := 9) rfl)) (je_var (n := 0) rfl) (by omega))) (by rw [List.length_drop, hw.1]; omega)) (L.bl _ (by decide))))) ?_
      unfold optD weightsI
      simp only [q]
      unfold tI tupE
      rw [List.map_map]
      rfl
    | some l =>
      refine js_ret (je_if (jt_notN (je_call (d := .int (l : Nat)) (ok_lead_of L) (by show 1 ≤ 2; decide) (ja_cons ((je_slTo (je_var (n := 3) rfl) (je_var (n := 5) rfl)).is sl) ja_nil) ⟨_, rfl, (leadD_some q).symm⟩)) (fun _ => je_non) (fun hc => by cases hc)) ?_
      unfold optD weightsI
      simp only [q]
def R_check_for (args : List PyData) (d : PyData) : Prop := ∃ (p : Int) (n f : Nat) (rows : List (List Int)), args = [.int p, .int (n : Nat), tTI rows, .int (f : Nat)] ∧ d = tI (checkI p n rows f) ∧ isP p ∧ n ≤ 100 ∧ f < n ∧ Red p n rows
theorem ok_check_for (L : Lib K mg fns bls) : Cal P w K mg base "check_for" 2 (spP R_check_for) := by
  refine cal_pure (N := ["prime", "size", "rows", "free", "digits", "back", "row", "place", "digit"]) (ps := ["prime", "size", "rows", "free"]) (k := 1) L 17 rfl ⟨rfl, rfl, rfl, by decide +kernel, rfl, by decide +kernel, by decide +kernel⟩ (bind4 fun _ _ _ _ _ _ _ _ _ _ => rfl) ?_ ?_
  · rintro args d ⟨_, _, _, _, rfl, _⟩; rfl
  rintro args d ⟨p, n, f, rows, rfl, rfl, hp, hn, hf, hR⟩ fa
  have hp1 := hp.two
  have hp2 := hp.le
  have hrl := red_len hR
  refine js_asgE (i := 4) (je_call (ok_unit_by L) (by show 1 ≤ 1; decide) (ja_cons (je_var (n := 1) rfl) (ja_cons (je_var (n := 3) rfl) ja_nil)) ⟨n, f, rfl, rfl, by omega⟩) rfl ?_
  refine js_asgDict (n := 5) (kvs := rows.map fun r => (((ldg r : Nat) : Int), (-gI r f) % p)) (JE.is (je_lcm (f := fun r => PyData.tuple [.int ((ldg r : Nat) : Int), .int ((-gI r f) % p)]) (own := [("row", 6)]) rfl (jw_tup (j := 6) (je_var (n := 2) rfl)) (pg_nameS (j := 6)) (fun row hm => je_tup (ja_cons (je_call (ok_lead_of L) (by show 1 ≤ 1; decide) (ja_cons (je_var (n := 6) rfl) ja_nil) ⟨row, rfl, (leadD_some (hR.lead hm).1).symm⟩)
    (ja_cons (je_mod (je_neg (je_ixT (je_var (n := 6) rfl) (je_var (n := 3) rfl) (atI_int (by rw [(hR.wd row hm).1]; exact hf)))) (je_var (n := 0) rfl) (by omega)) ja_nil)) (by show 2 ≤ 1000000; decide)) (by omega)) (by rw [List.map_map]; rfl)) ?_ ?_ (L.bl _ (by decide))
  · rw [List.map_map]
    have := leads_nd hR
    have e : List.map ((fun x => x.fst) ∘ fun r => (((ldg r : Nat) : Int), (-gI r f) % p)) rows = (rows.map ldg).map fun k : Nat => (k : Int) := by rw [List.map_map]; rfl
    rw [e]
    exact List.pairwise_map.mpr (this.imp fun {a b} h q => h (by omega))
  refine js_ret (je_tupleL (je_lcm (own := [("place", 7), ("digit", 8)]) rfl (jw_enumT (j1 := 7) (j2 := 8) (je_var (n := 4) rfl) (L.bl _ (by decide))) (pg_twoS (j1 := 7) (j2 := 8)) (fun q hm => (je_dget (n := 5) rfl (je_var (n := 7) rfl) (je_var (n := 8) rfl))) (by unfold enumI; rw [List.length_mapIdx, unit_len]; omega)) (L.bl _ (by decide))) ?_
  unfold tI tupE checkI enumI
  rw [map_mapIdxI, map_mapIdxI]
def R_checks_by (args : List PyData) (d : PyData) : Prop := ∃ (p : Int) (n : Nat) (rows : List (List Int)), args = [.int p, .int (n : Nat), tTI rows] ∧ d = tTI (checksI p n rows) ∧ isP p ∧ n ≤ 50 ∧ Red p n rows
theorem any_eqv_int {xs : List Nat} {k : Nat} : ((xs.map fun i : Nat => PyData.int (i : Nat)).any fun z => PyData.eqv z (.int (k : Nat))) = xs.contains k := by
  induction xs with
  | nil => rfl
  | cons x xs ih =>
    rw [List.map_cons, List.any_cons, ih, List.contains_cons]
    congr 1
    show ((x : Int) == (k : Int)) = (k == x)
    rw [Bool.eq_iff_iff,
          beq_iff_eq, beq_iff_eq]
    omega
theorem flat_nats {xs : List Nat} : (xs.map fun i : Nat => PyData.int (i : Nat)).all flatD = true := by
  rw [List.all_map]
  exact List.all_eq_true.mpr
        fun _ _ => rfl
theorem ok_checks_by (L : Lib K mg fns bls) : Cal P w K mg base "checks_by" 4 (spP R_checks_by) := by
  refine cal_pure (N := ["prime", "size", "rows", "leads", "row", "free"]) (ps := ["prime", "size", "rows"]) (k := 3) L 18 rfl ⟨rfl, rfl, rfl, by decide +kernel, rfl, by decide +kernel, by decide +kernel⟩ (bind3 fun _ _ _ _ _ _ _ _ _ => rfl) ?_ ?_
  · rintro args d ⟨_, _, _, rfl, _⟩; rfl
  rintro args d ⟨p, n, rows, rfl, rfl, hp, hn, hR⟩ fa
  have hrl := red_len hR
  refine js_asgCell (i := 3) (je_lcm (f := fun r => PyData.int (ldg r : Nat)) (own := [("row", 4)]) rfl (jw_tup (j := 4) (je_var (n := 2) rfl)) (pg_nameS (j := 4)) (fun row hm => (je_call (ok_lead_of L) (by show 1 ≤ 3; decide) (ja_cons (je_var (n := 4) rfl) ja_nil) ⟨row, rfl, (leadD_some (hR.lead hm).1).symm⟩)) (by omega)) (d := lN (rows.map ldg)) (by unfold lN lstE; rw [List.map_map]; rfl) ?_
  refine js_ret (je_call (ok_reduced_by L) (by show 3 ≤ 3; decide) (ja_cons (je_var (n := 0) rfl) (ja_cons (JE.is (je_lcf (pr := fun f : Int => !((rows.map ldg).contains f.toNat)) (f := fun f : Int => tI (checkI p n rows f.toNat)) (own := [("free", 5)]) rfl (jw_range1 (j := 5) (je_var (n := 1) rfl) (L.bl _ (by decide)) (by omega)) (pg_nameS (j := 5))
    (fun free hm => (jt_is (jt_notIn (je_var (n := 5) rfl) (je_var (n := 3) rfl) (.l _) rfl flat_nats) ?_)) (fun free hm hp' => (je_call (ok_check_for L) (by show 2 ≤ 3; decide) (ja_cons (je_var (n := 0) rfl) (ja_cons (je_var (n := 1) rfl) (ja_cons (je_var (n := 2) rfl) (ja_cons (je_var (n := 5) rfl) ja_nil)))) ⟨p, n, free.toNat, rows, ?_, rfl, hp, by omega, ?_, hR⟩)) (by rw [len_rangeI]; omega)) ?_) ja_nil)) ⟨p, n, (freeI n rows).map (checkI p n rows), rfl, rfl, hp, by omega, ?_, ?_⟩) rfl
  · obtain ⟨h1, h2⟩ := mem_rangeI.mp hm
    have e : free = ((free.toNat : Nat) : Int) := by omega
    rw [show PyData.int free = .int ((free.toNat : Nat) : Int) by rw [← e]]
    rw [any_eqv_int]
  · obtain ⟨h1, h2⟩ := mem_rangeI.mp hm
    have e : free = ((free.toNat : Nat) : Int) := by omega
    rw [show PyData.int free = .int ((free.toNat : Nat) : Int) by rw [← e]]
  · obtain ⟨h1, h2⟩ := mem_rangeI.mp hm
    omega
  · unfold lTI lstE freeI rangeI
    rw [List.filter_map, List.map_map, List.map_map]
    have e : ((n : Int) - 0).toNat = n := by omega
    rw [e]
    have e2 : (List.range n).filter ((fun f : Int => !((rows.map ldg).contains f.toNat)) ∘ fun k : Nat => 0 + (k : Int)) = (List.range n).filter fun f => !((rows.map ldg).contains f) := by
      congr 1
      funext k
      simp
    rw [e2]
    congr 1
    refine List.map_congr_left
          fun k _ => ?_
    simp [Function.comp]
  · rw [List.length_map]
    have := free_len (n := n) (rows := rows)
    omega
  · intro x hx
    obtain ⟨f, _, rfl⟩ := List.mem_map.mp hx
    exact check_wd hp f
end
end Sh


set_option Elab.async false
set_option linter.all false
set_option maxRecDepth 100000
set_option maxHeartbeats 40000000
set_option autoImplicit false
/-! W4: bookwork, rankwork, usable, throwwork, burstwork -/
namespace Sh
open PySem PySem.Spec
      PyProof.Rows L2
/-! ### small things of data -/
theorem nat_e (i : Int) (h : 0 ≤ i) : ((i.toNat : Nat) : Int) = i := by omega
theorem rangeI_nat (n : Nat) : rangeI 0 (n : Int) = (List.range n).map fun k : Nat => (k : Int) := by
  unfold rangeI
  have e : ((n : Int) - 0).toNat = n := by omega
  rw [e]
  exact List.map_congr_left fun k _ => by omega
theorem range_nat {n : Nat} {i : Int} (h : i ∈ rangeI 0 (n : Int)) : ∃ k : Nat, i = k ∧ k < n := by
  obtain ⟨a, b⟩ := mem_rangeI.mp h
  exact ⟨i.toNat, by omega, by omega⟩
/-- a comprehension over range(n), filtered, told by numbers -/
theorem filt_range {n : Nat} {pr : Int → Bool} {f : Int → PyData} : ((rangeI 0 (n : Int)).filter pr).map f = (((List.range n).filter fun k : Nat => pr (k : Int)).map fun k : Nat => f (k : Int)) := by
  rw [rangeI_nat, List.filter_map, List.map_map]
  rfl
theorem map_range {n : Nat} {f : Int → PyData} : (rangeI 0 (n : Int)).map f = (List.range n).map fun k : Nat => f (k : Int) := by
  rw [rangeI_nat, List.map_map]
  rfl
theorem col_wd {p : Int} {n k : Nat} {rows : List (List Int)} (hp : 0 < p) (h : ∀ r ∈ rows, Wd p n r) (hk : k < n) : Wd p rows.length (colI rows k) := by
  refine ⟨by unfold colI; rw [List.length_map], fun x hx => ?_⟩
  obtain ⟨r, hr, rfl⟩ := List.mem_map.mp hx
  exact (h r hr).get hk hp
theorem ring_lt {n s l k : Nat} (hn : 0 < n) (h : k ∈ ringI n s l) : k < n := by
  obtain ⟨j, _, rfl⟩ := List.mem_map.mp h
  exact Nat.mod_lt _ hn
theorem nat_mod (a b : Nat) : ((a % b : Nat) : Int) = (a : Int) % (b : Int) := by omega
theorem dget_at {ds : List (Option Int)} {k : Nat} (h : k < ds.length) : (ds.map digD)[k]? = some (digD (ds.getD k none)) := by
  rw [List.getElem?_map, List.getElem?_eq_getElem h,
        List.getD_eq_getElem?_getD, List.getElem?_eq_getElem h]
  rfl
theorem isNone_dig (o : Option Int) : isNone (digD o) = o.isNone := by cases o <;> rfl
theorem notNone_dig (o : Option Int) : (!isNone (digD o)) = o.isSome := by cases o <;> rfl
section
variable {P : Program} {w : World} {K :
      PySem.W.Frag} {mg : Str → Option Value} {base : Heap}
def R_column_in (args : List PyData) (d : PyData) : Prop := ∃ (p n : Int) (rows : List (List Int)) (k : Nat), args = [bookD p n rows, .int (k : Nat)] ∧ d = tI (colI rows k) ∧ rows.length ≤ 1000 ∧ ∀ r ∈ rows, k < r.length
theorem ok_column_in (L : Lib K mg fns bls) : Cal P w K mg base "column_in" 1 (spP R_column_in) := by
  refine cal_pure (N := ["book", "place", "row"]) (ps := ["book", "place"]) (k := 0) L 19 rfl ⟨rfl, rfl, rfl, by decide +kernel, rfl, by decide +kernel, by decide +kernel⟩ (bind2 fun _ _ _ _ _ _ _ _ => rfl) ?_ ?_
  · rintro args d ⟨_, _, _, _, rfl, _⟩; rfl
  rintro args d ⟨p, n, rows, k, rfl, rfl, hl, hk⟩ fa
  refine js_retE (je_tupleL (je_lcm (own := [("row", 2)]) rfl (jw_tup (j := 2) (enc := tupE .int) (items := rows) (je_ixT (je_var (n := 0) rfl) je_int rfl)) (pg_nameS (j := 2)) (fun row hm => (je_ixT (je_var (n := 2) rfl) (je_var (n := 1) rfl) (atI_int (hk row hm)))) (by omega)) (L.bl _ (by decide))) ?_ rfl
  unfold tI tupE colI
  rw [List.map_map]
  rfl
def R_rank_at (args : List PyData) (d : PyData) : Prop := ∃ (p : Int) (n : Nat) (rows : List (List Int)) (ks : List Nat), args = [bookD p (n : Nat) rows, lN ks] ∧ d = .int ((reducedI p (ks.map (colI rows))).length : Nat) ∧ isP p ∧ rows.length ≤ 100 ∧ ks.length ≤ 60 ∧ (∀ k ∈ ks, k < n) ∧ ∀ r ∈ rows, Wd p n r
theorem ok_rank_at (L : Lib K mg fns bls) : Cal P w K mg base "rank_at" 5 (spP R_rank_at) := by
  refine cal_pure (N := ["book", "places", "place"]) (ps := ["book", "places"]) (k := 4) L 20 rfl ⟨rfl, rfl, rfl, by decide +kernel, rfl, by decide +kernel, by decide +kernel⟩ (bind2 fun _ _ _ _ _ _ _ _ => rfl) ?_ ?_
  · rintro args d ⟨_, _, _, _, rfl, _⟩; rfl
  rintro args d ⟨p, n, rows, ks, rfl, rfl, hp, hr, hl, hk, hw⟩ fa
  have hp2 := hp.two
  refine js_retE (je_call (ok_rank_among L) (by show 4 ≤ 4; decide) (ja_cons (je_ixT (je_var (n := 0) rfl) je_int rfl) (ja_cons (JE.is (je_lcm (f := fun k : Nat => tI (colI rows k)) (own := [("place", 2)]) rfl (jw_list (j := 2) (je_var (n := 1) rfl)) (pg_nameS (j := 2)) (fun place hm => (je_call (ok_column_in L) (by show 1 ≤ 4; decide) (ja_cons (je_var (n := 0) rfl) (ja_cons (je_var (n := 2) rfl) ja_nil)) ⟨p, n, rows, place, rfl, rfl, by omega, fun r h => by rw [(hw r h).1]; exact hk _ hm⟩)) (by omega))
    (y := lTI (ks.map (colI rows))) (by unfold lTI lstE; rw [List.map_map]; rfl)) ja_nil)) ⟨p, rows.length, _, rfl, rfl, hp, hr, by rw [List.length_map]; exact hl, fun x hx => ?_⟩) rfl rfl
  obtain ⟨k, h, rfl⟩ := List.mem_map.mp hx
  exact col_wd (by omega) hw (hk k h)
def R_ring_places (args : List PyData) (d : PyData) : Prop := ∃ (n s l : Nat), args = [.int (n : Nat), .int (s : Nat), .int (l : Nat)] ∧ d = lN (ringI n s l) ∧ 0 < n ∧ l ≤ 1000
theorem ok_ring_places (L : Lib K mg fns bls) : Cal P w K mg base "ring_places" 1 (spP R_ring_places) := by
  refine cal_pure (N := ["size", "start", "length", "k"]) (ps := ["size", "start", "length"]) (k := 0) L 21 rfl ⟨rfl, rfl, rfl, by decide +kernel, rfl, by decide +kernel, by decide +kernel⟩ (bind3 fun _ _ _ _ _ _ _ _ _ => rfl) ?_ ?_
  · rintro args d ⟨_, _, _, rfl, _⟩; rfl
  rintro args d ⟨n, s, l, rfl, rfl, hn, hl⟩ fa
  refine js_retE (je_lcm (own := [("k", 3)]) rfl (jw_range1 (j := 3) (je_var (n := 2) rfl) (L.bl _ (by decide)) (by omega)) (pg_nameS (j := 3)) (fun k hm => (je_mod (je_add (je_var (n := 1) rfl) (je_var (n := 3) rfl)) (je_var (n := 0) rfl) (by omega))) (by rw [len_rangeI]; omega)) ?_ rfl
  rw [map_range]
  unfold lN lstE ringI
  rw [List.map_map]
  congr 1
def R_rank_along (args : List PyData) (d : PyData) : Prop := ∃ (p : Int) (n s l : Nat) (rows : List (List Int)), args = [bookD p (n : Nat) rows, .int (s : Nat), .int (l : Nat)] ∧ d = .int ((reducedI p ((ringI n s l).map (colI rows))).length : Nat) ∧ isP p ∧ rows.length ≤ 100 ∧ l ≤ 60 ∧ 0 < n ∧ ∀ r ∈ rows, Wd p n r
theorem ok_rank_along (L : Lib K mg fns bls) : Cal P w K mg base "rank_along" 6 (spP R_rank_along) := by
  refine cal_pure (N := ["book", "start", "length"]) (ps := ["book", "start", "length"]) (k := 5) L 22 rfl ⟨rfl, rfl, rfl, by decide +kernel, rfl, by decide +kernel, by decide +kernel⟩ (bind3 fun _ _ _ _ _ _ _ _ _ => rfl) ?_ ?_
  · rintro args d ⟨_, _, _, _, _, rfl, _⟩; rfl
  rintro args d ⟨p, n, s, l, rows, rfl, rfl, hp, hr, hl, hn, hw⟩ fa
  exact js_retE (je_call (ok_rank_at L) (by show 5 ≤ 5; decide) (ja_cons (je_var (n := 0) rfl) (ja_cons (je_call (ok_ring_places L) (by show 1 ≤ 5; decide) (ja_cons (je_ixT (je_var (n := 0) rfl) je_int rfl) (ja_cons (je_var (n := 1) rfl) (ja_cons (je_var (n := 2) rfl) ja_nil))) ⟨n, s, l, rfl, rfl, hn, by omega⟩) ja_nil)) ⟨p, n, rows, _, rfl, rfl, hp, hr, by unfold ringI; rw [List.length_map, List.length_range]; exact hl, fun k hk => ring_lt hn hk, hw⟩) rfl rfl
def R_rank_in (args : List PyData) (d : PyData) : Prop := ∃ (ts : List Int) (s l : Nat), args = [tI ts, .int (s : Nat), .int (l : Nat)] ∧ d = .int (rankI ts s l) ∧ 0 < ts.length ∧ l ≤ 1000
theorem ok_rank_in (L : Lib K mg fns bls) : Cal P w K mg base "rank_in" 1 (spP R_rank_in) := by
  refine cal_pure (N := ["throws", "start", "length", "size", "k"]) (ps := ["throws", "start", "length"]) (k := 0) L 23 rfl ⟨rfl, rfl, rfl, by decide +kernel, rfl, by decide +kernel, by decide +kernel⟩ (bind3 fun _ _ _ _ _ _ _ _ _ => rfl) ?_ ?_
  · rintro args d ⟨_, _, _, rfl, _⟩; rfl
  rintro args d ⟨ts, s, l, rfl, rfl, hn, hl⟩ fa
  refine js_asgE (i := 3) (je_len (je_var (n := 0) rfl) (.t _) (L.bl _ (by decide))) (d := .int (ts.length : Nat)) (by rw [List.length_map]) ?_
  refine js_retE (je_sub (je_var (n := 2) rfl) (je_len (je_lcf (pr := fun k : Int => decide (k + tAt ts (s + k.toNat) < (l : Nat))) (own := [("k", 4)]) rfl (jw_range1 (j := 4) (je_var (n := 2) rfl) (L.bl _ (by decide)) (by omega)) (pg_nameS (j := 4)) (fun k hm => ?_) (fun k hm hp => (je_var (n := 4) rfl)) (by rw [len_rangeI]; omega)) (.l _) (L.bl _ (by decide)))) ?_ rfl
  · obtain ⟨k, rfl, hk⟩ := range_nat hm
    have hb : (s + k) % ts.length < ts.length := Nat.mod_lt _ hn
    exact jt_lt (je_add (je_var (n := 4) rfl) (je_ixT (je_var (n := 0) rfl) (je_mod (je_add (je_var (n := 1) rfl) (je_var (n := 4) rfl)) (je_var (n := 3) rfl) (by omega)) (d := .int (tAt ts (s + k))) (by
      have := atI_int hb
      rw [nat_mod] at this
      rw [← Int.natCast_add]
      exact this))) (je_var (n := 2) rfl)
  · rw [filt_range, List.length_map]
    rfl
/-! ### want -/
def R_want (args : List PyData) (d : PyData) : Prop := ∃ (x y : PyData), args = [.bool true, x, y] ∧ d = .none
theorem ok_want (L : Lib K mg fns bls) : CalD P w K mg base "want" 1 (spP R_want) [.int (-1)] := by
  obtain ⟨f, fd, F, hm⟩ := L.df 0 _ _ _ rfl
  have ok : FnOk P w K mg base CX0 1 f fd ["holds", "word", "at"] (spP R_want) := by
    refine fn_pure (N := ["holds", "word", "at"]) F ⟨rfl, rfl, rfl, by decide +kernel, rfl, by decide +kernel, by decide +kernel⟩ ?_ ?_
    · rintro args d ⟨_, _, rfl, _⟩; rfl
    rintro args d ⟨x, y, rfl, rfl⟩ fa
    exact js_ifNo (jt_not (jt_val (je_var (n := 0) rfl))) rfl (js_nil rfl)
  obtain ⟨ds, hv, hb⟩ := F.binds1 (ps := ["holds", "word", "at"]) 2 0 (by simp) rfl (fun T kV doc pm an cdv ct us its h1 h2 => by
    match us, h1, its, h2 with
    | [u, v], _, [x], _ => exact ⟨_, rfl, rfl⟩)
  exact ⟨f, fd, _, ds, ok, hm, F.kp, hb, hv⟩
def R_want_place (args : List PyData) (d : PyData) : Prop := ∃ (n i : Int) (y : PyData), args = [.int n, .int i, y] ∧ d = .none ∧ 0 ≤ i ∧ i < n
theorem ok_want_place (L : Lib K mg fns bls) : CalD P w K mg base "want_place" 4 (spP R_want_place) [.str "place"] := by
  obtain ⟨f, fd, F, hm⟩ := L.df 1 _ _ _ rfl
  have ok : FnOk P w K mg base CX0 4 f fd ["size", "thing", "name"] (spP R_want_place) := by
    refine fn_pure (N := ["size", "thing", "name"]) F ⟨rfl, rfl, rfl, by decide +kernel, rfl, by decide +kernel, by decide +kernel⟩ ?_ ?_
    · rintro args d ⟨_, _, _, rfl, _⟩; rfl
    rintro args d ⟨n, i, y, rfl, rfl, h0, h1⟩ fa
    exact js_expr (je_callD (d := .none) (ys := [.int (-1)]) (ok_want L) (by show 1 ≤ 3; decide) (ja_cons (je_call (d := .bool true) (ok_is_index L) (by show 3 ≤ 3; decide) (ja_cons (je_var (n := 1) rfl) (ja_cons (je_var (n := 0) rfl) ja_nil)) ⟨_, _, rfl, by rw [decide_eq_true (And.intro h0 h1)]⟩) (ja_cons (je_var (n := 2) rfl) ja_nil)) (fun H => .cons (.int _) .nil) ⟨_, _, rfl, rfl⟩) (js_nil rfl)
  obtain ⟨ds, hv, hb⟩ := F.binds1 (ps := ["size", "thing", "name"]) 2 0 (by simp) rfl (fun T kV doc pm an cdv ct us its h1 h2 => by
    match us, h1, its, h2 with
    | [u, v], _, [x], _ => exact ⟨_, rfl, rfl⟩)
  exact ⟨f, fd, _, ds, ok, hm, F.kp, hb, hv⟩
def R_want_stretch (args : List PyData) (d : PyData) : Prop := ∃ n s l : Int, args = [.int n, .tuple [.int s, .int l]] ∧ d = .none ∧ 0 ≤ s ∧ s < n ∧ 0 ≤ l ∧ l ≤ n
theorem ok_want_stretch (L : Lib K mg fns bls) : Cal P w K mg base "want_stretch" 5 (spP R_want_stretch) := by
  refine cal_pure (N := ["size", "thing"]) (ps := ["size", "thing"]) (k := 4) L 26 rfl ⟨rfl, rfl, rfl, by decide +kernel, rfl, by decide +kernel, by decide +kernel⟩ (bind2 fun _ _ _ _ _ _ _ _ => rfl) ?_ ?_
  · rintro args d ⟨_, _, _, rfl, _⟩; rfl
  rintro args d ⟨n, s, l, rfl, rfl, h⟩ fa
  exact js_expr (je_callD (d := .none) (ys := [.int (-1)]) (ok_want L) (by show 1 ≤ 4; decide) (ja_cons (je_call (d := .bool true) (ok_is_stretch L) (by show 4 ≤ 4; decide) (ja_cons (je_var (n := 0) rfl) (ja_cons (je_var (n := 1) rfl) ja_nil)) ⟨n, s, l, rfl, rfl, h⟩) (ja_cons je_str ja_nil)) (fun H => .cons (.int _) .nil) ⟨_, _, rfl, rfl⟩) (js_nil rfl)
end
end Sh


set_option Elab.async false
set_option linter.all false
set_option maxRecDepth 100000
set_option maxHeartbeats 40000000
set_option autoImplicit false
/-! W5: throwwork, burstwork -/
namespace Sh
open PySem PySem.Spec
      PyProof.Rows L2
theorem held_lt {ds : List (Option Int)} {k : Nat} (h : k ∈ heldI ds) : k < ds.length ∧ (ds.getD k none).isSome = true := by
  obtain ⟨a, b⟩ := List.mem_filter.mp h
  exact ⟨List.mem_range.mp a, b⟩
theorem atI_dig {ds : List (Option Int)} {k : Nat} (h : k < ds.length) : atI (ds.map digD) (k : Int) = some (digD (ds.getD k none)) := atI_nat (dget_at h)
theorem atI_held {ds : List (Option Int)} {k : Nat} (h : k ∈ heldI ds) : atI (ds.map digD) (k : Int) = some (.int ((ds.getD k none).getD 0)) := by
  obtain ⟨a, b⟩ := held_lt h
  rw [atI_dig a]
  cases q : ds.getD k none with
  | none => rw [q] at b; cases b
  | some i => rfl
theorem atI_pred {ds : List (Option Int)} {k : Nat} (h : k < ds.length) : atI (ds.map digD) ((k : Int) - 1) = some (digD (ds.getD (if k = 0 then ds.length - 1 else k - 1) none)) := by
  by_cases h0 : k = 0
  · subst h0
    rw [if_pos rfl]
    have e : ixN (ds.map digD).length (((0 : Nat) : Int) - 1) = some (ds.length - 1) := by
      unfold ixN
      rw [List.length_map, if_neg (by omega), if_pos (by omega)]
      congr 1
      omega
    unfold atI
    rw [e]
    exact dget_at (by omega)
  · rw [if_neg h0, show (k : Int) - 1 = ((k - 1 : Nat) : Int) by omega]
    exact atI_dig (by omega)
/-- well told digits -/
def Dg (p : Int) (ds : List (Option Int)) : Prop := ∀ o ∈ ds, ∀ i, o = some i → 0 ≤ i ∧ i < p
theorem Dg.get {p : Int} {ds : List (Option Int)} (h : Dg p ds) (hp : 0 < p) (k : Nat) : 0 ≤ (ds.getD k none).getD 0 ∧ (ds.getD k none).getD 0 < p := by
  rw
        [List.getD_eq_getElem?_getD]
  cases q : ds[k]? with
  | none => exact ⟨Int.le_refl _, hp⟩
  | some o =>
    cases o with
    | none => exact ⟨Int.le_refl _, hp⟩
    | some i => exact h _ (List.mem_of_getElem? q) i rfl
theorem told_wd {p : Int} {ds : List (Option Int)} (h : Dg p ds) (hp : 0 < p) (ks : List Nat) : Wd p ks.length (toldI ds ks) := by
  refine ⟨by unfold toldI; rw [List.length_map], fun x hx => ?_⟩
  obtain ⟨k, _, rfl⟩ := List.mem_map.mp hx
  exact h.get hp k
theorem atP_wd {p : Int} {n : Nat} {r : List Int} (hp : 0 < p) (h : Wd p n r) (ks : List Nat) : Wd p ks.length (atP ks r) := by
  refine ⟨by unfold atP; rw [List.length_map], fun x hx => ?_⟩
  obtain ⟨k, _, rfl⟩ := List.mem_map.mp hx
  by_cases hk : k < n
  · exact h.get hk hp
  · rw [gI_out (by rw [h.1]; omega)]
    omega
theorem held_len (ds : List (Option Int)) : (heldI ds).length ≤ ds.length := by unfold heldI; exact Nat.le_trans (List.length_filter_le _ _) (by rw [List.length_range]; exact Nat.le_refl _)
section
variable {P : Program} {w : World} {K :
      PySem.W.Frag} {mg : Str → Option Value} {base : Heap}
def R_lands_by (args : List PyData) (d : PyData) : Prop := ∃ (ts : List Int) (i : Nat), args = [tI ts, .int (i : Nat)] ∧ d = .int (landI ts i) ∧ 0 < ts.length
theorem ok_lands_by (L : Lib K mg fns bls) : Cal P w K mg base "lands_by" 1 (spP R_lands_by) := by
  refine cal_pure (N := ["pattern", "i"]) (ps := ["pattern", "i"]) (k := 0) L 27 rfl ⟨rfl, rfl, rfl, by decide +kernel, rfl, by decide +kernel, by decide +kernel⟩ (bind2 fun _ _ _ _ _ _ _ _ => rfl) ?_ ?_
  · rintro args d ⟨_, _, rfl, _⟩; rfl
  rintro args d ⟨ts, i, rfl, rfl, hn⟩ fa
  refine js_retE (je_add (je_var (n := 1) rfl) (je_ixT (je_var (n := 0) rfl) (je_mod (je_var (n := 1) rfl) (JE.is (je_len (je_var (n := 0) rfl) (.t _) (L.bl _ (by decide))) (y := .int (ts.length : Nat)) (by rw [List.length_map])) (by omega)) (d := .int (tAt ts i)) ?_)) rfl rfl
  rw [← nat_mod]
  exact atI_int (Nat.mod_lt _ hn)
def R_balls_by (args : List PyData) (d : PyData) : Prop := ∃ (ts : List Int), args = [tI ts] ∧ d = .int (ballsI ts) ∧ 0 < ts.length ∧ ts.length ≤ 1000
theorem ok_balls_by (L : Lib K mg fns bls) : Cal P w K mg base "balls_by" 1 (spP R_balls_by) := by
  refine cal_pure (N := ["pattern"]) (ps := ["pattern"]) (k := 0) L 28 rfl ⟨rfl, rfl, rfl, by decide +kernel, rfl, by decide +kernel, by decide +kernel⟩ (bind1 fun _ _ _ _ _ _ _ => rfl) ?_ ?_
  · rintro args d ⟨_, rfl, _⟩; rfl
  rintro args d ⟨ts, rfl, rfl, hn, hn2⟩ fa
  refine js_retE (je_fdiv (je_sumT (je_var (n := 0) rfl) (L.bl _ (by decide))) (JE.is (je_len (je_var (n := 0) rfl) (.t _) (L.bl _ (by decide))) (y := .int (ts.length : Nat)) (by rw [List.length_map])) ⟨by omega, by omega⟩) rfl rfl
def R_thrown_by (args : List PyData) (d : PyData) : Prop := ∃ (ts : List Int), args = [tI ts] ∧ d = tI (thrownI ts) ∧ 0 < ts.length ∧ ts.length ≤ 60
theorem ok_thrown_by (L : Lib K mg fns bls) : Cal P w K mg base "thrown_by" 2 (spP R_thrown_by) := by
  refine cal_pure (N := ["pattern", "pairs", "place", "pair"]) (ps := ["pattern"]) (k := 1) L 29 rfl ⟨rfl, rfl, rfl, by decide +kernel, rfl, by decide +kernel, by decide +kernel⟩ (bind1 fun _ _ _ _ _ _ _ => rfl) ?_ ?_
  · rintro args d ⟨_, rfl, _⟩; rfl
  rintro args d ⟨ts, rfl, rfl, hn, hn2⟩ fa
  refine js_asgM (f := fun k : Int => tI [landI ts k.toNat % (ts.length : Nat), k]) (i := 1) (own := [("place", 2)]) rfl (jw_range1 (j := 2) (JE.is (je_len (je_var (n := 0) rfl) (.t _) (L.bl _ (by decide))) (y := .int (ts.length : Nat)) (by rw [List.length_map])) (L.bl _ (by decide)) (by omega)) (pg_nameS (j := 2)) (fun place hm => ?_) (by rw [len_rangeI]; omega) (d := lTI (pairsI ts)) ?_ ?_
  · obtain ⟨k, rfl, hk⟩ := range_nat hm
    exact je_tup (ja_cons (je_mod (je_call (ok_lands_by L) (by show 1 ≤ 1; decide) (ja_cons (je_var (n := 0) rfl) (ja_cons (je_var (n := 2) rfl) ja_nil)) ⟨ts, k, rfl, rfl, hn⟩) (JE.is (je_len (je_var (n := 0) rfl) (.t _) (L.bl _ (by decide))) (y := .int (ts.length : Nat)) (by rw [List.length_map])) (by omega)) (ja_cons (je_var (n := 2) rfl) ja_nil)) (by show 2 ≤ 1000000; decide)
  · rw [map_range]
    unfold lTI lstE pairsI
    rw [List.map_map]
    rfl
  have hb : ∀ r ∈ pairsI ts, r.length = 2 ∧ TS.Bd 1000 r := fun r hr => by
    obtain ⟨k, hk, rfl⟩ := List.mem_map.mp hr
    have := List.mem_range.mp hk
    refine ⟨rfl, fun x hx => ?_⟩
    have m := modLt (p := (ts.length : Nat)) (by omega) (landI ts k)
    rcases List.mem_cons.mp
          hx with e | hx
    · subst e; omega
    · rw [List.mem_singleton.mp hx]; omega
  refine js_retE (je_tupleL (je_lcm (f := fun q : List Int => .int (gI q 1)) (own := [("pair", 3)]) rfl (jw_list (j := 3) (je_sortT (B := 1000) (dd := 2) (by decide) (je_var (n := 1) rfl) (by unfold pairsI; rw [List.length_map, List.length_range]; omega) hb (L.bl _ (by decide)))) (pg_nameS (j := 3)) (fun pair hm => ?_) (by
    rw [(sortC_perm _ _).length_eq]; unfold pairsI; rw [List.length_map, List.length_range]; omega)) (L.bl _ (by decide))) ?_ rfl
  · exact je_ixT (je_var (n := 3) rfl) je_int (atI_int (i := 1) (by rw [(hb _ ((sortC_perm _ _).mem_iff.mp hm)).1]; decide))
  · unfold thrownI tI tupE
    rw [List.map_map]
    rfl
def R_open_at (args : List PyData) (d : PyData) : Prop := ∃ (ts : List Int) (s l : Nat), args = [tI ts, .int (s : Nat), .int (l : Nat)] ∧ d = .int (openI ts s l) ∧ 0 < ts.length ∧ ts.length ≤ 60 ∧ l ≤ ts.length
theorem ok_open_at (L : Lib K mg fns bls) : Cal P w K mg base "open_at" 2 (spP R_open_at) := by
  refine cal_pure (N := ["pattern", "start", "length", "size"]) (ps := ["pattern", "start", "length"]) (k := 1) L 30 rfl ⟨rfl, rfl, rfl, by decide +kernel, rfl, by decide +kernel, by decide +kernel⟩ (bind3 fun _ _ _ _ _ _ _ _ _ => rfl) ?_ ?_
  · rintro args d ⟨_, _, _, rfl, _⟩; rfl
  rintro args d ⟨ts, s, l, rfl, rfl, hn, hn2, hl⟩ fa
  refine js_asgE (i := 3) (je_len (je_var (n := 0) rfl) (.t _) (L.bl _ (by decide))) (d := .int (ts.length : Nat)) (by rw [List.length_map]) ?_
  exact js_retE (je_sub (je_call (ok_balls_by L) (by show 1 ≤ 1; decide) (ja_cons (je_var (n := 0) rfl) ja_nil) ⟨ts, rfl, rfl, hn, by omega⟩) (je_call (d := .int (rankI ts ((s + l) % ts.length) (ts.length - l))) (ok_rank_in L) (by show 1 ≤ 1; decide) (ja_cons (je_var (n := 0) rfl) (ja_cons (je_mod (je_add (je_var (n := 1) rfl) (je_var (n := 2) rfl)) (je_var (n := 3) rfl) (by omega)) (ja_cons (je_sub (je_var (n := 3) rfl) (je_var (n := 2) rfl)) ja_nil))) ⟨ts, (s + l) % ts.length, ts.length - l, by
    rw [nat_mod, show ((ts.length - l : Nat) : Int) = (ts.length : Int) - (l : Int) by omega, Int.natCast_add], rfl, hn, by omega⟩)) rfl rfl
def R_is_digit_or_none (args : List PyData) (d : PyData) : Prop := ∃ (p : Int) (o : Option Int), args = [.int p, digD o] ∧ d = .bool true ∧ ∀ i, o = some i → 0 ≤ i ∧ i < p
theorem ok_is_digit_or_none (L : Lib K mg fns bls) : Cal P w K mg base "is_digit_or_none" 1 (spP R_is_digit_or_none) := by
  refine cal_pure (N := ["prime", "thing"]) (ps := ["prime", "thing"]) (k := 0) L 31 rfl ⟨rfl, rfl, rfl, by decide +kernel, rfl, by decide +kernel, by decide +kernel⟩ (bind2 fun _ _ _ _ _ _ _ _ => rfl) ?_ ?_
  · rintro args d ⟨_, _, rfl, _⟩; rfl
  rintro args d ⟨p, o, rfl, rfl, ho⟩ fa
  cases o with
  | none => exact js_iff (jt_isN (je_var (n := 1) rfl)) (fun _ => js_retE je_bl rfl rfl) fun hc => by cases hc
  | some i =>
    obtain ⟨h0, h1⟩ := ho i rfl
    refine js_ifNo (jt_isN (je_var (n := 1) rfl)) rfl ?_
    refine js_retE (je_and (je_isi (T := "int") (je_var (n := 1) rfl) (kit_int _) (L.bl _ (by decide)) (L.bl _ (by decide)) (by decide +kernel)) fun _ => (je_and (je_not (je_isi (T := "bool") (je_var (n := 1) rfl) (kit_bool _) (L.bl _ (by decide)) (L.bl _ (by decide)) (by decide +kernel))) fun _ => (je_one (je_chain (fun X h => op_le) (fun X h => op_lt) je_int (je_var (n := 1) rfl) (fun _ => (je_var (n := 0) rfl)) rd_B0 fun _ => rd_B0)))) ?_ rfl
    simp [isIntD, isBoolD, digD, h0, h1]
def R_lost_places (args : List PyData) (d : PyData) : Prop := ∃ (ds : List (Option Int)), args = [dgs ds] ∧ d = lN (lostI ds) ∧ ds.length ≤ 1000
theorem ok_lost_places (L : Lib K mg fns bls) : Cal P w K mg base "lost_places" 1 (spP R_lost_places) := by
  refine cal_pure (N := ["digits", "place", "digit"]) (ps := ["digits"]) (k := 0) L 32 rfl ⟨rfl, rfl, rfl, by decide +kernel, rfl, by decide +kernel, by decide +kernel⟩ (bind1 fun _ _ _ _ _ _ _ => rfl) ?_ ?_
  · rintro args d ⟨_, rfl, _⟩; rfl
  rintro args d ⟨ds, rfl, rfl, hl⟩ fa
  refine js_retE (je_lcf (pr := fun q : Int × Option Int => q.2.isNone) (own := [("place", 1), ("digit", 2)]) rfl (jw_enumT (j1 := 1) (j2 := 2) (enc := digD) (items := ds) (je_var (n := 0) rfl) (L.bl _ (by decide))) (pg_twoS (j1 := 1) (j2 := 2)) (fun q hm => (jt_is (jt_isN (je_var (n := 2) rfl)) (isNone_dig _))) (fun q hm hp => (je_var (n := 1) rfl)) (by unfold enumI; rw [List.length_mapIdx]; omega)) ?_ rfl
  have e : enumI ds = (List.range ds.length).map fun k : Nat => ((k : Int), ds.getD k none) := by
    apply List.ext_getElem?
    intro i
    rw [enumI_get, List.getElem?_map]
    by_cases h : i < ds.length
    · rw [List.getElem?_range h, List.getElem?_eq_getElem h]
      show some ((i : Int), _) = some ((i : Int), ds.getD i none)
      rw [List.getD_eq_getElem?_getD, List.getElem?_eq_getElem h]
      rfl
    · rw [List.getElem?_eq_none (by omega), List.getElem?_eq_none (by rw [List.length_range]; omega)]
      rfl
  rw [e, List.filter_map, List.map_map]
  rfl
def R_are_told (args : List PyData) (d : PyData) : Prop := ∃ (p : Int) (rows : List (List Int)) (ds : List (Option Int)), args = [bookD p (ds.length : Nat) rows, dgs ds] ∧ d = .bool true ∧ ds.length ≤ 1000 ∧ Dg p ds ∧ (begunI ds).length < 2
theorem ok_are_told (L : Lib K mg fns bls) : Cal P w K mg base "are_told" 2 (spP R_are_told) := by
  refine cal_pure (N := ["book", "thing", "begun", "place", "one"]) (ps := ["book", "thing"]) (k := 1) L 33 rfl ⟨rfl, rfl, rfl, by decide +kernel, rfl, by decide +kernel, by decide +kernel⟩ (bind2 fun _ _ _ _ _ _ _ _ => rfl) ?_ ?_
  · rintro args d ⟨_, _, _, rfl, _⟩; rfl
  rintro args d ⟨p, rows, ds, rfl, rfl, hl, hd, hb⟩ fa
  refine js_ifNo (jt_or2 (jt_not (jt_val (je_isi (T := "tuple") (je_var (n := 1) rfl) (kit_tuple _) (L.bl _ (by decide)) (L.bl _ (by decide)) (by decide +kernel)))) fun _ => (jt_neI (je_len (je_var (n := 1) rfl) (.t _) (L.bl _ (by decide))) (je_ixT (je_var (n := 0) rfl) je_int rfl))) ?_ ?_
  · rw [List.length_map]
    simp [isTupD]
    rfl
  refine js_ifNo (jt_not (jt_val (je_all (bs := ds.map fun _ => true) (JE.is (je_lcm (f := fun _ => .bool true) (own := [("one", 4)]) rfl (jw_tup (j := 4) (enc := digD) (items := ds) (je_var (n := 1) rfl)) (pg_nameS (j := 4)) (fun one hm => (je_call (ok_is_digit_or_none L) (by show 1 ≤ 1; decide) (ja_cons (je_ixT (je_var (n := 0) rfl) je_int rfl) (ja_cons (je_var (n := 4) rfl) ja_nil)) ⟨p, one, rfl, rfl, hd one hm⟩)) (by omega)) (by rw [List.map_map]; rfl)) (L.bl _ (by decide))))) ?_ ?_
  · rw [List.all_map]
    simp
  refine js_asgFl (f := fun k : Nat => .int (k : Nat)) (pr := fun k : Nat => (ds.getD (if k = 0 then ds.length - 1 else k - 1) none).isSome) (i := 2) (own := [("place", 3)]) rfl (jw_list (j := 3) (enc := fun k : Nat => .int (k : Nat)) (items := lostI ds) (je_call (ok_lost_places L) (by show 1 ≤ 1; decide) (ja_cons (je_var (n := 1) rfl) ja_nil) ⟨ds, rfl, rfl, hl⟩)) (pg_nameS (j := 3)) (fun place hm => (jt_is (jt_notN (je_ixT (je_var (n := 1) rfl) (je_sub (je_var (n := 3) rfl) je_int) (atI_pred (List.mem_range.mp (List.mem_filter.mp hm).1)))) (notNone_dig _))) (fun place hm hp => (je_var (n := 3) rfl)) ?_ (d := lN (begunI ds)) rfl ?_
  · unfold lostI
    have := List.length_filter_le (fun k => (ds.getD k none).isNone) (List.range ds.length)
    rw [List.length_range] at this
    omega
  refine js_retE (je_lt (je_len (je_var (n := 2) rfl) (.l _) (L.bl _ (by decide))) je_int) ?_ rfl
  rw [List.length_map]
  congr 1
  exact decide_eq_true
        (by omega)
def R_products_sum (args : List PyData) (d : PyData) : Prop := ∃ (p : Int) (a b : List Int), args = [.int p, tI a, lI b] ∧ d = .int (sumI p a b) ∧ 0 < p ∧ a.length ≤ 1000 ∧ ∀ x ∈ a, -1000 ≤ x ∧ x ≤ 1000
theorem ok_products_sum (L : Lib K mg fns bls) : Cal P w K mg base "products_sum" 1 (spP R_products_sum) := by
  refine cal_pure (N := ["prime", "one", "other", "digit", "more"]) (ps := ["prime", "one", "other"]) (k := 0) L 34 rfl ⟨rfl, rfl, rfl, by decide +kernel, rfl, by decide +kernel, by decide +kernel⟩ (bind3 fun _ _ _ _ _ _ _ _ _ => rfl) ?_ ?_
  · rintro args d ⟨_, _, _, rfl, _⟩; rfl
  rintro args d ⟨p, a, b, rfl, rfl, hp, hl, hb⟩ fa
  exact js_retE (je_mod (je_sumL (ns := (a.zip b).map fun q => q.1 * q.2) (JE.is (je_lcm (f := fun q : Int × Int => .int (q.1 * q.2)) (own := [("digit", 3), ("more", 4)]) rfl (jw_zipM (j1 := 3) (j2 := 4) (je_var (n := 1) rfl) (je_var (n := 2) rfl) (L.bl _ (by decide))) (pg_twoS (j1 := 3) (j2 := 4)) (fun q hm => (je_mul (je_var (n := 3) rfl) (je_var (n := 4) rfl) (cmul_l (by have := hb _ (List.of_mem_zip hm).1; omega) (by have := hb _ (List.of_mem_zip hm).1; omega)))) (by rw [List.length_zip]; omega)) (by unfold lstE; rw [List.map_map]; rfl)) (L.bl _ (by decide))) (je_var (n := 0) rfl) hp) rfl rfl
end
end Sh


set_option Elab.async false
set_option linter.all false
set_option maxRecDepth 100000
set_option maxHeartbeats 40000000
set_option autoImplicit false
/-! W6: words_on, check_against -/
namespace Sh
open PySem PySem.Spec
      PyProof.Rows L2
theorem kept_len (n : Nat) (ps : List Nat) : (keptI n ps).length ≤ n := by unfold keptI; exact Nat.le_trans (List.length_filter_le _ _) (by rw [List.length_range]; exact Nat.le_refl _)
theorem held_nd (ds : List (Option Int)) : (heldI ds).Nodup := List.Pairwise.filter _ List.nodup_range
theorem zip_fst_sub : ∀ (a b : List Int), ((a.zip b).map (·.1)).Sublist a
  | [], _ => .slnil
  | _ :: _, [] => List.nil_sublist _
  | x :: a, y :: b => by
    rw [List.zip_cons_cons, List.map_cons]
    exact (zip_fst_sub a b).cons_cons _
theorem words_wd {p : Int} {n : Nat} {rows : List (List Int)} {places : List Nat} (hp : isP p) : ∀ x ∈ checksI p n rows ++ (keptI n places).map fun k : Nat => unitI n (k : Int), Wd p n x := by
  intro x hx
  rcases List.mem_append.mp hx with h | h
  · exact (checks_red hp).1.wd x h
  · obtain ⟨k, _, rfl⟩ := List.mem_map.mp h
    exact unit_wd hp.two _ _
theorem checks_len {p : Int} {n : Nat} {rows : List (List Int)} (hp : isP p) : (checksI p n rows).length ≤ n := red_len (checks_red hp).1
section
variable {P : Program} {w : World} {K :
      PySem.W.Frag} {mg : Str → Option Value} {base : Heap}
def R_words_on (args : List PyData) (d : PyData) : Prop := ∃ (p : Int) (n : Nat) (rows : List (List Int)) (places : List Nat), args = [bookD p (n : Nat) rows, lN places] ∧ d = bookD p (n : Nat) (wordsI p n rows places) ∧ isP p ∧ n ≤ 30 ∧ Red p n rows
theorem ok_words_on (L : Lib K mg fns bls) : Cal P w K mg base "words_on" 5 (spP R_words_on) := by
  refine cal_pure (N := ["book", "places", "kept", "prime", "size", "rows", "place"]) (ps := ["book", "places"]) (k := 4) L 35 rfl ⟨rfl, rfl, rfl, by decide +kernel, rfl, by decide +kernel, by decide +kernel⟩ (bind2 fun _ _ _ _ _ _ _ _ => rfl) ?_ ?_
  · rintro args d ⟨_, _, _, _, rfl, _⟩; rfl
  rintro args d ⟨p, n, rows, places, rfl, rfl, hp, hn, hR⟩ fa
  refine js_unpack (js := [3, 4, 5]) (je_var (n := 0) rfl) (.one (.one (.one .nil))) rfl ?_
  refine js_asgFl (pr := fun k : Int => !places.contains k.toNat) (f := fun k : Int => tI (unitI n k)) (i := 2) (own := [("place", 6)]) rfl (jw_range1 (j := 6) (je_var (n := 4) rfl) (L.bl _ (by decide)) (by omega)) (pg_nameS (j := 6)) (fun place hm => (jt_is (jt_notIn (je_var (n := 6) rfl) (je_var (n := 1) rfl) (.l _) rfl flat_nats) ?_)) (fun place hm hp => (je_call (ok_unit_by L) (by show 1 ≤ 4; decide) (ja_cons (je_var (n := 4) rfl) (ja_cons (je_var (n := 6) rfl) ja_nil)) ⟨n, _, rfl, rfl, by omega⟩)) (by rw [len_rangeI]; omega)
    (d := lTI ((keptI n places).map fun k : Nat => unitI n (k : Int))) ?_ ?_
  · obtain ⟨k, rfl, hk⟩ := range_nat hm
    rw [any_eqv_int]
    rfl
  · rw [filt_range]
    unfold lTI lstE keptI
    rw [List.map_map]
    rfl
  have hl := @checks_len p n rows hp
  have hk := kept_len n places
  refine js_retE (je_tup (ja_cons (je_var (n := 3) rfl) (ja_cons (je_var (n := 4) rfl) (ja_cons (je_call (d := tTI (wordsI p n rows places)) (ok_checks_by L) (by show 4 ≤ 4; decide) (ja_cons (je_var (n := 3) rfl) (ja_cons (je_var (n := 4) rfl) (ja_cons (je_call (d := tTI (reducedI p (checksI p n rows ++ (keptI n places).map fun k : Nat => unitI n (k : Int)))) (ok_reduced_by L) (by show 3 ≤ 4; decide) (ja_cons (je_var (n := 3) rfl) (ja_cons (JE.is (je_lst (ja_star (je_call (d := tTI (checksI p n rows)) (ok_checks_by L) (by show 4 ≤ 4; decide) (ja_cons (je_var (n := 3) rfl) (ja_cons (je_var (n := 4) rfl) (ja_cons (je_var (n := 5) rfl) ja_nil))) ⟨p, n, rows, rfl, rfl, hp, by omega, hR⟩) (.t _) (ja_star (je_var (n := 2) rfl) (.l _) ja_nil)) ?_)
    (y := lTI (checksI p n rows ++ (keptI n places).map fun k : Nat => unitI n (k : Int))) ?_) ja_nil)) ⟨p, n, _, rfl, rfl, hp, by omega, ?_, words_wd hp⟩) ja_nil))) ⟨p, n, _, rfl, rfl, hp, by omega, (reduced_red hp (words_wd hp)).1⟩) ja_nil))) (by show 3 ≤ 1000000; decide)) rfl rfl
  · rw [List.length_append, List.length_append, List.length_map, List.length_map, List.length_map]
    simp
    omega
  · unfold lTI lstE
    rw [List.append_nil, ← List.map_append]
  · rw [List.length_append, List.length_map]
    omega
def R_check_against (args : List PyData) (d : PyData) : Prop := ∃ (p : Int) (n : Nat) (rows : List (List Int)) (ds : List (Option Int)), args = [bookD p (n : Nat) rows, dgs ds] ∧ d = tI (againstI p n rows ds) ∧ isP p ∧ n ≤ 30 ∧ ds.length = n ∧ Red p n rows ∧ Dg p ds ∧ barsI p rows ds ≠ []
theorem ok_check_against (L : Lib K mg fns bls) : Cal P w K mg base "check_against" 5 (spP R_check_against) := by
  refine cal_pure (N := ["book", "digits", "kept", "told", "some", "bars", "weights", "prime", "size", "rows", "place", "one", "row"]) (ps := ["book", "digits"]) (k := 4) L 36 rfl ⟨rfl, rfl, rfl, by decide +kernel, rfl, by decide +kernel, by decide +kernel⟩ (bind2 fun _ _ _ _ _ _ _ _ => rfl) ?_ ?_
  · rintro args d ⟨_, _, _, _, rfl, _⟩; rfl
  rintro args d ⟨p, n, rows, ds, rfl, rfl, hp, hn, hdn, hR, hD, hB⟩ fa
  have hp2 := hp.two
  have hp3 := hp.le
  have hh := held_len ds
  have hrl := red_len hR
  have hs : ∀ x ∈ rows.map (atP (heldI ds)), Wd p (heldI ds).length x := fun x hx => by
    obtain ⟨r, hr, rfl⟩ := List.mem_map.mp hx
    exact atP_wd (by omega) (hR.wd r hr) _
  obtain ⟨hsR, _, _, _⟩ := reduced_red hp hs
  have hcw := fun x hx => (@checks_red p (heldI ds).length (reducedI p (rows.map (atP (heldI ds)))) hp).1.wd x hx
  refine js_unpack (js := [7, 8, 9]) (je_var (n := 0) rfl) (.one (.one (.one .nil))) rfl ?_
  refine js_asgCell (i := 2) (je_lcf (pr := fun k : Int => (ds.getD k.toNat none).isSome) (f := fun k : Int => .int k) (own := [("place", 10)]) rfl (jw_range1 (j := 10) (je_var (n := 8) rfl) (L.bl _ (by decide)) (by omega)) (pg_nameS (j := 10)) (fun place hm => ?_) (fun place hm hp => (je_var (n := 10) rfl)) (by rw [len_rangeI]; omega)) (d := lN (heldI ds)) ?_ ?_
  · obtain ⟨k, rfl, hk⟩ := range_nat hm
    exact jt_is (jt_notN (je_ixT (je_var (n := 1) rfl) (je_var (n := 10) rfl) (atI_dig (by omega)))) (notNone_dig _)
  · rw [filt_range]
    unfold lN lstE heldI
    rw [hdn]
    rfl
  refine js_asgCell (i := 3) (je_lcm (f := fun k : Nat => .int ((ds.getD k none).getD 0)) (own := [("place", 10)]) rfl (jw_list (j := 10) (enc := fun k : Nat => .int (k : Nat)) (items := heldI ds) (je_var (n := 2) rfl)) (pg_nameS (j := 10)) (fun place hm => (je_ixT (je_var (n := 1) rfl) (je_var (n := 10) rfl) (atI_held hm))) (by omega)) (d := lI (toldI ds (heldI ds))) (by unfold lI lstE toldI; rw [List.map_map]; rfl) ?_
  refine js_asgE (i := 4) (je_call (ok_reduced_by L) (by show 3 ≤ 4; decide) (ja_cons (je_var (n := 7) rfl) (ja_cons (JE.is (je_lcm (f := fun r : List Int => tI (atP (heldI ds) r)) (own := [("row", 12)]) rfl (jw_tup (j := 12) (enc := tupE .int) (items := rows) (je_var (n := 9) rfl)) (pg_nameS (j := 12)) (fun row hm => JE.is (je_tupleL (je_lcm (f := fun k : Nat => .int (gI row k)) (own := [("place", 10)]) rfl (jw_list (j := 10) (enc := fun k : Nat => .int (k : Nat)) (items := heldI ds) (je_var (n := 2) rfl)) (pg_nameS (j := 10)) (fun place hm2 => (je_ixT (je_var (n := 12) rfl) (je_var (n := 10) rfl) (atI_int (by
      rw [(hR.wd row hm).1]; have := (held_lt hm2).1; omega)))) (by omega)) (L.bl _ (by decide))) (by unfold tI tupE atP; rw [List.map_map]; rfl)) (by omega)) (y := lTI (rows.map (atP (heldI ds)))) (by unfold lTI lstE; rw [List.map_map]; rfl)) ja_nil)) ⟨p, (heldI ds).length, _, rfl, rfl, hp, by omega, by rw [List.length_map]; omega, hs⟩) rfl ?_
  refine js_asgFl (f := fun r : List Int => tI r) (pr := fun one => decide (sumI p one (toldI ds (heldI ds)) ≠ 0)) (i := 5) (own := [("one", 11)]) rfl (jw_tup (j := 11) (enc := tupE .int) (items := checksI p (heldI ds).length (reducedI p (rows.map (atP (heldI ds))))) (je_call (ok_checks_by L) (by show 4 ≤ 4; decide) (ja_cons (je_var (n := 7) rfl) (ja_cons (JE.is (je_len (je_var (n := 2) rfl) (.l _) (L.bl _ (by decide))) (y := .int ((heldI ds).length : Nat)) (by rw [List.length_map])) (ja_cons (je_var (n := 4) rfl) ja_nil))) ⟨p, _, _, rfl, rfl, hp, by omega, hsR⟩)) (pg_nameS (j := 11))
    (fun one hm => (jt_neI (je_call (ok_products_sum L) (by show 1 ≤ 4; decide) (ja_cons (je_var (n := 7) rfl) (ja_cons (je_var (n := 11) rfl) (ja_cons (je_var (n := 3) rfl) ja_nil))) ⟨p, one, _, rfl, rfl, by omega, by rw [(hcw one hm).1]; omega, fun x hx => by have := (hcw one hm).2 x hx; omega⟩) je_int)) (fun one hm hp => (je_var (n := 11) rfl)) (Nat.le_trans (checks_len hp) (by omega)) (d := lTI (barsI p rows ds)) rfl ?_
  obtain ⟨b0, bs, hb0⟩ : ∃ b0 bs, barsI p rows ds = b0 :: bs := by
    cases q : barsI p rows ds with
    | nil => exact absurd q hB
    | cons x l => exact ⟨x, l, rfl⟩
  rw [hb0]
  refine js_asgDict (n := 6) (kvs := ((heldI ds).map fun k : Nat => (k : Int)).zip b0) (JE.is (je_listZip (je_var (n := 2) rfl) (je_ixL (je_var (n := 5) rfl) je_int (d := tI b0) (atI_nat (i := 0) rfl)) (by rw [List.length_map]; omega) (L.bl _ (by decide)) (L.bl _ (by decide))) ?_) ?_ ?_ (L.bl _ (by decide))
  · congr 1
    have z : ∀ (a : List Nat) (b : List Int), ((a.map fun k : Nat => PyData.int (k : Nat)).zip (b.map PyData.int)).map (fun z => PyData.tuple [z.1, z.2]) = (((a.map fun k : Nat => (k : Int)).zip b)).map fun kv => PyData.tuple [.int kv.1, .int kv.2] := by
      intro a
      induction a with
      | nil => intro b; rfl
      | cons x a ih =>
        intro b
        cases b with
        | nil => rfl
        | cons y b => simp only [List.map_cons, List.zip_cons_cons, ih]
    exact z _ _
  · have nd : ((heldI ds).map fun k : Nat => (k : Int)).Nodup := List.pairwise_map.mpr ((held_nd ds).imp fun {a b} h q => h (by omega))
    exact nd.sublist (zip_fst_sub _ _)
  refine js_retE (je_tupleL (je_lcm (f := fun k : Int => .int (dgetD (((heldI ds).map fun k : Nat => (k : Int)).zip b0) k 0)) (own := [("place", 10)]) rfl (jw_range1 (j := 10) (je_var (n := 8) rfl) (L.bl _ (by decide)) (by omega)) (pg_nameS (j := 10)) (fun place hm => (je_dget (n := 6) rfl (je_var (n := 10) rfl) je_int)) (by rw [len_rangeI]; omega)) (L.bl _ (by decide))) ?_ rfl
  rw [map_range]
  unfold tI tupE againstI
  rw [hb0, List.map_map]
  rfl
end
end Sh


set_option Elab.async false
set_option linter.all false
set_option maxRecDepth 100000
set_option maxHeartbeats 40000000
set_option autoImplicit false
/-! W7: the public defs but filled -/
namespace Sh
open PySem PySem.Spec
      PyProof.Rows L2
abbrev tN (ks : List Nat) : PyData := tupE (fun k : Nat => .int (k : Nat)) ks
def itN (f : Nat → Nat) : Nat → Nat → Nat
  | 0, x => x
  | k + 1, x => f (itN f k x)
def hopI (ts : List Int) (k : Nat) : Nat := (landI ts k % (ts.length : Nat)).toNat
theorem hop_int {ts : List Int} (hn : 0 < ts.length) (k : Nat) : ((hopI ts k : Nat) : Int) = landI ts k % (ts.length : Nat) := by
  unfold hopI
  have := modLt (p := (ts.length : Nat)) (by omega) (landI ts k)
  omega
theorem hop_lt {ts : List Int} (hn : 0 < ts.length) (k : Nat) : hopI ts k < ts.length := by
  have := hop_int hn k
  have := modLt (p := (ts.length : Nat)) (by omega) (landI ts k)
  omega
theorem pairs_mem {ts : List Int} {q : List Int} (h : q ∈ sortC 1000 (pairsI ts)) : ∃ k, k < ts.length ∧ q = [landI ts k % (ts.length : Nat), (k : Nat)] := by
  obtain ⟨k, hk, rfl⟩ := List.mem_map.mp ((sortC_perm _ _).mem_iff.mp h)
  exact ⟨k, List.mem_range.mp hk, rfl⟩
theorem thrown_len (ts : List Int) : (thrownI ts).length = ts.length := by
  unfold thrownI
  rw [List.length_map, (sortC_perm _ _).length_eq]
  unfold pairsI
  rw [List.length_map,
        List.length_range]
theorem thrown_at {ts : List Int} {i : Nat} (h : i < ts.length) : ∃ k, k < ts.length ∧ gI (thrownI ts) i = (k : Nat) ∧ (sortC 1000 (pairsI ts))[i]? = some [landI ts k % (ts.length : Nat), (k : Nat)] := by
  have hl : i < (sortC 1000 (pairsI ts)).length := by
    have := thrown_len ts
    unfold thrownI at this
    rw [List.length_map] at this
    omega
  obtain ⟨k, hk, e⟩ := pairs_mem (List.getElem_mem hl)
  refine ⟨k, hk, ?_, by rw [List.getElem?_eq_getElem hl, e]⟩
  unfold gI thrownI
  rw [List.getD_eq_getElem?_getD, List.getElem?_map, List.getElem?_eq_getElem hl, e]
  rfl
section
variable {P : Program} {w : World} {K :
      PySem.W.Frag} {mg : Str → Option Value} {base : Heap}
def R_open_words (args : List PyData) (d : PyData) : Prop := ∃ (p : Int) (n s l : Nat) (rows : List (List Int)), args = [bookD p (n : Nat) rows, .tuple [.int (s : Nat), .int (l : Nat)]] ∧ d = bookD p (n : Nat) (wordsI p n rows (ringI n s l)) ∧ isP p ∧ n ≤ 30 ∧ Red p n rows ∧ s < n ∧ l ≤ n
theorem at_open_words (L : Lib K mg fns bls) : FnAt P w K mg base "open_words" s_open_words 6 ["book", "stretch"] (spP R_open_words) := by
  refine fnat_pure (N := ["book", "stretch"]) (ps := ["book", "stretch"]) (k := 5) L 38 rfl ⟨rfl, rfl, rfl, by decide +kernel, rfl, by decide +kernel, by decide +kernel⟩ ?_ ?_
  · rintro args d ⟨_, _, _, _, _, rfl, _⟩; rfl
  rintro args d ⟨p, n, s, l, rows, rfl, rfl, hp, hn, hR, hs, hl⟩ fa
  refine js_expr (je_call (d := .none) (ok_want_stretch L) (by show 5 ≤ 5; decide) (ja_cons (je_ixT (je_var (n := 0) rfl) je_int rfl) (ja_cons (je_var (n := 1) rfl) ja_nil)) ⟨_, _, _, rfl, rfl, by omega, by omega, by omega, by omega⟩) ?_
  exact js_retE (je_call (ok_words_on L) (by show 5 ≤ 5; decide) (ja_cons (je_var (n := 0) rfl) (ja_cons (je_call (ok_ring_places L) (by show 1 ≤ 5; decide) (ja_cons (je_ixT (je_var (n := 0) rfl) je_int rfl) (ja_cons (je_ixT (je_var (n := 1) rfl) je_int rfl) (ja_cons (je_ixT (je_var (n := 1) rfl) je_int rfl) ja_nil))) ⟨n, s, l, rfl, rfl, by omega, by omega⟩) ja_nil)) ⟨p, n, rows, _, rfl, rfl, hp, hn, hR⟩) rfl rfl
def R_holds_any (args : List PyData) (d : PyData) : Prop := ∃ (p : Int) (n s l : Nat) (rows : List (List Int)), args = [bookD p (n : Nat) rows, .tuple [.int (s : Nat), .int (l : Nat)]] ∧ d = .bool (decide (((reducedI p ((ringI n s l).map (colI rows))).length : Int) = (l : Nat))) ∧ isP p ∧ n ≤ 30 ∧ Red p n rows ∧ s < n ∧ l ≤ n
theorem at_holds_any (L : Lib K mg fns bls) : FnAt P w K mg base "holds_any" s_holds_any 7 ["book", "stretch"] (spP R_holds_any) := by
  refine fnat_pure (N := ["book", "stretch"]) (ps := ["book", "stretch"]) (k := 6) L 39 rfl ⟨rfl, rfl, rfl, by decide +kernel, rfl, by decide +kernel, by decide +kernel⟩ ?_ ?_
  · rintro args d ⟨_, _, _, _, _, rfl, _⟩; rfl
  rintro args d ⟨p, n, s, l, rows, rfl, rfl, hp, hn, hR, hs, hl⟩ fa
  have hrl := red_len hR
  refine js_expr (je_call (d := .none) (ok_want_stretch L) (by show 5 ≤ 6; decide) (ja_cons (je_ixT (je_var (n := 0) rfl) je_int rfl) (ja_cons (je_var (n := 1) rfl) ja_nil)) ⟨_, _, _, rfl, rfl, by omega, by omega, by omega, by omega⟩) ?_
  exact js_retE (je_eqI (je_call (ok_rank_along L) (by show 6 ≤ 6; decide) (ja_cons (je_var (n := 0) rfl) (ja_cons (je_ixT (je_var (n := 1) rfl) je_int rfl) (ja_cons (je_ixT (je_var (n := 1) rfl) je_int rfl) ja_nil))) ⟨p, n, s, l, rows, rfl, rfl, hp, by omega, by omega, by omega, hR.wd⟩) (je_ixT (je_var (n := 1) rfl) je_int rfl)) rfl rfl
def R_mends_burst (args : List PyData) (d : PyData) : Prop := ∃ (ts : List Int) (s l : Nat), args = [tI ts, .tuple [.int (s : Nat), .int (l : Nat)]] ∧ d = .bool (decide (openI ts s l = 0)) ∧ ts.length ≤ 60 ∧ s < ts.length ∧ l ≤ ts.length
theorem at_mends_burst (L : Lib K mg fns bls) : FnAt P w K mg base "mends_burst" s_mends_burst 6 ["pattern", "stretch"] (spP R_mends_burst) := by
  refine fnat_pure (N := ["pattern", "stretch"]) (ps := ["pattern", "stretch"]) (k := 5) L 40 rfl ⟨rfl, rfl, rfl, by decide +kernel, rfl, by decide +kernel, by decide +kernel⟩ ?_ ?_
  · rintro args d ⟨_, _, _, rfl, _⟩; rfl
  rintro args d ⟨ts, s, l, rfl, rfl, hn, hs, hl⟩ fa
  refine js_expr (je_call (d := .none) (ok_want_stretch L) (by show 5 ≤ 5; decide) (ja_cons (je_len (je_var (n := 0) rfl) (.t _) (L.bl _ (by decide))) (ja_cons (je_var (n := 1) rfl) ja_nil)) ⟨_, _, _, rfl, rfl, by omega, by rw [List.length_map]; omega, by omega, by rw [List.length_map]; omega⟩) ?_
  exact js_retE (je_eqI (je_call (ok_open_at L) (by show 2 ≤ 5; decide) (ja_cons (je_var (n := 0) rfl) (ja_cons (je_ixT (je_var (n := 1) rfl) je_int rfl) (ja_cons (je_ixT (je_var (n := 1) rfl) je_int rfl) ja_nil))) ⟨ts, s, l, rfl, rfl, by omega, hn, hl⟩) je_int) rfl rfl
def R_open_rank (args : List PyData) (d : PyData) : Prop := ∃ (ts : List Int) (s l : Nat), args = [tI ts, .tuple [.int (s : Nat), .int (l : Nat)]] ∧ d = .int (openI ts s l) ∧ ts.length ≤ 60 ∧ s < ts.length ∧ l ≤ ts.length
theorem at_open_rank (L : Lib K mg fns bls) : FnAt P w K mg base "open_rank" s_open_rank 6 ["pattern", "stretch"] (spP R_open_rank) := by
  refine fnat_pure (N := ["pattern", "stretch"]) (ps := ["pattern", "stretch"]) (k := 5) L 43 rfl ⟨rfl, rfl, rfl, by decide +kernel, rfl, by decide +kernel, by decide +kernel⟩ ?_ ?_
  · rintro args d ⟨_, _, _, rfl, _⟩; rfl
  rintro args d ⟨ts, s, l, rfl, rfl, hn, hs, hl⟩ fa
  refine js_expr (je_call (d := .none) (ok_want_stretch L) (by show 5 ≤ 5; decide) (ja_cons (je_len (je_var (n := 0) rfl) (.t _) (L.bl _ (by decide))) (ja_cons (je_var (n := 1) rfl) ja_nil)) ⟨_, _, _, rfl, rfl, by omega, by rw [List.length_map]; omega, by omega, by rw [List.length_map]; omega⟩) ?_
  exact js_retE (je_call (ok_open_at L) (by show 2 ≤ 5; decide) (ja_cons (je_var (n := 0) rfl) (ja_cons (je_ixT (je_var (n := 1) rfl) je_int rfl) (ja_cons (je_ixT (je_var (n := 1) rfl) je_int rfl) ja_nil))) ⟨ts, s, l, rfl, rfl, by omega, hn, hl⟩) rfl rfl
def R_most_burst (args : List PyData) (d : PyData) : Prop := ∃ (t : Int) (ts : List Int), args = [tI (t :: ts)] ∧ d = .int (((t :: ts).length : Nat) - ts.foldl max t)
theorem at_most_burst (L : Lib K mg fns bls) : FnAt P w K mg base "most_burst" s_most_burst 1 ["pattern"] (spP R_most_burst) := by
  refine fnat_pure (N := ["pattern"]) (ps := ["pattern"]) (k := 0) L 41 rfl ⟨rfl, rfl, rfl, by decide +kernel, rfl, by decide +kernel, by decide +kernel⟩ ?_ ?_
  · rintro args d ⟨_, _, rfl, _⟩; rfl
  rintro args d ⟨t, ts, rfl, rfl⟩ fa
  refine js_retE (je_sub (je_len (je_var (n := 0) rfl) (.t _) (L.bl _ (by decide))) (je_maxT (je_var (n := 0) rfl) (L.bl _ (by decide)))) ?_ rfl
  rw [List.length_map]
def R_most_window (args : List PyData) (d : PyData) : Prop := ∃ (t : Int) (ts : List Int), args = [tI (t :: ts)] ∧ d = .int (ts.foldl min t)
theorem at_most_window (L : Lib K mg fns bls) : FnAt P w K mg base "most_window" s_most_window 1 ["pattern"] (spP R_most_window) := by
  refine fnat_pure (N := ["pattern"]) (ps := ["pattern"]) (k := 0) L 42 rfl ⟨rfl, rfl, rfl, by decide +kernel, rfl, by decide +kernel, by decide +kernel⟩ ?_ ?_
  · rintro args d ⟨_, _, rfl, _⟩; rfl
  rintro args d ⟨t, ts, rfl, rfl⟩ fa
  exact js_retE (je_minT (je_var (n := 0) rfl) (L.bl _ (by decide))) rfl rfl
def R_next_ones (args : List PyData) (d : PyData) : Prop := ∃ (ts : List Int) (i : Nat), args = [tI ts, .int (i : Nat)] ∧ d = tN (ringI ts.length (i + 1) (gI ts i).toNat) ∧ i < ts.length ∧ 0 ≤ gI ts i ∧ gI ts i ≤ 1000
theorem at_next_ones (L : Lib K mg fns bls) : FnAt P w K mg base "next_ones" s_next_ones 5 ["pattern", "place"] (spP R_next_ones) := by
  refine fnat_pure (N := ["pattern", "place"]) (ps := ["pattern", "place"]) (k := 4) L 44 rfl ⟨rfl, rfl, rfl, by decide +kernel, rfl, by decide +kernel, by decide +kernel⟩ ?_ ?_
  · rintro args d ⟨_, _, rfl, _⟩; rfl
  rintro args d ⟨ts, i, rfl, rfl, hi, h0, h1⟩ fa
  refine js_expr (je_callD (d := .none) (ys := [.str "place"]) (ok_want_place L) (by show 4 ≤ 4; decide) (ja_cons (je_len (je_var (n := 0) rfl) (.t _) (L.bl _ (by decide))) (ja_cons (je_var (n := 1) rfl) ja_nil)) (fun H => .cons (.str _) .nil) ⟨_, _, _, rfl, rfl, by omega, by rw [List.length_map]; omega⟩) ?_
  exact js_retE (je_tupleL (je_call (ok_ring_places L) (by show 1 ≤ 4; decide) (ja_cons (je_len (je_var (n := 0) rfl) (.t _) (L.bl _ (by decide))) (ja_cons (je_add (je_var (n := 1) rfl) je_int) (ja_cons (je_ixT (je_var (n := 0) rfl) (je_var (n := 1) rfl) (atI_int hi)) ja_nil))) ⟨ts.length, i + 1, (gI ts i).toNat, by
    rw [List.length_map, nat_e _ h0]; rfl, rfl, by omega, by omega⟩) (L.bl _ (by decide))) rfl rfl
def R_ones_before (args : List PyData) (d : PyData) : Prop := ∃ (ts : List Int) (i k : Nat), args = [tI ts, .int (i : Nat)] ∧ d = tN (ringI ts.length k (gI ts k).toNat) ∧ i < ts.length ∧ ts.length ≤ 60 ∧ gI (thrownI ts) i = (k : Nat) ∧ k < ts.length ∧ 0 ≤ gI ts k ∧ gI ts k ≤ 1000
theorem at_ones_before (L : Lib K mg fns bls) : FnAt P w K mg base "ones_before" s_ones_before 5 ["pattern", "place"] (spP R_ones_before) := by
  refine fnat_pure (N := ["pattern", "place", "begun"]) (ps := ["pattern", "place"]) (k := 4) L 45 rfl ⟨rfl, rfl, rfl, by decide +kernel, rfl, by decide +kernel, by decide +kernel⟩ ?_ ?_
  · rintro args d ⟨_, _, _, rfl, _⟩; rfl
  rintro args d ⟨ts, i, k, rfl, rfl, hi, hn, hk, hkn, h0, h1⟩ fa
  refine js_expr (je_callD (d := .none) (ys := [.str "place"]) (ok_want_place L) (by show 4 ≤ 4; decide) (ja_cons (je_len (je_var (n := 0) rfl) (.t _) (L.bl _ (by decide))) (ja_cons (je_var (n := 1) rfl) ja_nil)) (fun H => .cons (.str _) .nil) ⟨_, _, _, rfl, rfl, by omega, by rw [List.length_map]; omega⟩) ?_
  refine js_asgE (i := 2) (je_ixT (je_call (d := tI (thrownI ts)) (ok_thrown_by L) (by show 2 ≤ 4; decide) (ja_cons (je_var (n := 0) rfl) ja_nil) ⟨ts, rfl, rfl, by omega, hn⟩) (je_var (n := 1) rfl) (atI_int (by rw [thrown_len]; exact hi))) (d := .int (k : Nat)) (by rw [hk]) ?_
  exact js_retE (je_tupleL (je_call (ok_ring_places L) (by show 1 ≤ 4; decide) (ja_cons (je_len (je_var (n := 0) rfl) (.t _) (L.bl _ (by decide))) (ja_cons (je_var (n := 2) rfl) (ja_cons (je_ixT (je_var (n := 0) rfl) (je_var (n := 2) rfl) (atI_int hkn)) ja_nil))) ⟨ts.length, k, (gI ts k).toNat, by
    rw [List.length_map, nat_e _ h0], rfl, by omega, by omega⟩) (L.bl _ (by decide))) rfl rfl
def R_chain_of (args : List PyData) (d : PyData) : Prop := ∃ (ts : List Int) (i m : Nat), args = [tI ts, .int (i : Nat)] ∧ d = tN ((List.range m).map fun j => itN (hopI ts) j i) ∧ i < ts.length ∧ 1 ≤ m ∧ m ≤ 1000 ∧ itN (hopI ts) m i = i ∧ ∀ j, 0 < j → j < m → itN (hopI ts) j i ≠ i
theorem at_chain_of (L : Lib K mg fns bls) : FnAt P w K mg base "chain_of" s_chain_of 5 ["pattern", "place"] (spP R_chain_of) := by
  refine fnat_pure (N := ["pattern", "place", "chain", "here"]) (ps := ["pattern", "place"]) (k := 4) L 46 rfl ⟨rfl, rfl, rfl, by decide +kernel, rfl, by decide +kernel, by decide +kernel⟩ ?_ ?_
  · rintro args d ⟨_, _, _, rfl, _⟩; rfl
  rintro args d ⟨ts, i, m, rfl, rfl, hi, hm1, hm2, hm, hmin⟩ fa
  refine js_expr (je_callD (d := .none) (ys := [.str "place"]) (ok_want_place L) (by show 4 ≤ 4; decide) (ja_cons (je_len (je_var (n := 0) rfl) (.t _) (L.bl _ (by decide))) (ja_cons (je_var (n := 1) rfl) ja_nil)) (fun H => .cons (.str _) .nil) ⟨_, _, _, rfl, rfl, by omega, by rw [List.length_map]; omega⟩) ?_
  refine js_asgN (i := 2) (jn_lst (ja_cons (je_var (n := 1) rfl) ja_nil) (by show 1 ≤ 1000000; decide)) ?_
  refine js_asgE (i := 3) (je_mod (je_call (ok_lands_by L) (by show 1 ≤ 4; decide) (ja_cons (je_var (n := 0) rfl) (ja_cons (je_var (n := 1) rfl) ja_nil)) ⟨ts, i, rfl, rfl, by omega⟩) (JE.is (je_len (je_var (n := 0) rfl) (.t _) (L.bl _ (by decide))) (y := .int (ts.length : Nat)) (by rw [List.length_map])) (by omega)) (d := .int (hopI ts i : Nat)) (by rw [hop_int (by omega)]) ?_
  refine js_while (W := fun q ds' => ∃ j, q + (j + 1) = m ∧ ds' = [.val (tI ts), .val (.int (i : Nat)), .own ((List.range (j + 1)).map fun j => .int (itN (hopI ts) j i : Nat)), .val (.int (itN (hopI ts) (j + 1) i : Nat))])
    (M := fun ds' => ds' = [.val (tI ts), .val (.int (i : Nat)), .own ((List.range m).map fun j => .int (itN (hopI ts) j i : Nat)), .val (.int (i : Nat))]) (m - 1) ⟨0, by omega, rfl⟩ ?_ ?_
  · rintro q ds' ⟨j, hq, rfl⟩
    refine ⟨_, jt_neI (je_var (n := 3) rfl) (je_var (n := 1) rfl), fun hc => ?_, fun hc => ?_⟩
    · have hne : j + 1 ≠ m := fun e => by
        rw [e, hm] at hc
        simp at hc
      refine js_append (i := 2) rfl (je_var (n := 3) rfl) (by rw [List.length_map, List.length_range]; omega) ?_
      refine js_asgE (i := 3) (je_mod (je_call (ok_lands_by L) (by show 1 ≤ 4; decide) (ja_cons (je_var (n := 0) rfl) (ja_cons (je_var (n := 3) rfl) ja_nil)) ⟨ts, _, rfl, rfl, by omega⟩) (JE.is (je_len (je_var (n := 0) rfl) (.t _) (L.bl _ (by decide))) (y := .int (ts.length : Nat)) (by rw [List.length_map])) (by omega)) (d := .int (itN (hopI ts) (j + 1 + 1) i : Nat)) (by
        rw [← hop_int (by omega)]; rfl) (js_nil ⟨q - 1, by omega, j + 1, by omega, ?_⟩)
      rw [List.range_succ (n := j + 1), List.map_append]
      rfl
    · have e : itN (hopI ts) (j + 1) i = i := by
        have := of_decide_eq_false hc
        omega
      have ej : j + 1 = m := by
        refine Classical.byContradiction fun hne => hmin (j + 1) (by omega) (by omega) e
      rw [e, ej]
  · rintro ds' rfl
    refine js_retE (je_tupleO (n := 2) rfl (L.bl _ (by decide))) ?_ rfl
    unfold tN tupE
    rw [List.map_map]
    rfl
end
end Sh


set_option Elab.async false
set_option linter.all false
set_option maxRecDepth 100000
set_option maxHeartbeats 40000000
set_option autoImplicit false
/-! X1: an own exception whose __init__ says super().__init__(x); self.f = x -/
namespace Sh
open PySem PySem.Spec
      PyProof.Rows L2
/-- what the written part says of such a class -/
structure SupC (P : Program) (K : PySem.W.Frag) (C fI : Addr) (fd : FuncData) (f : Str) (st : Stmt) : Prop where
  T : OexC K C
  fn : ∃ (qual : Str) (dV kV doc pm ct : Value) (an : Option Addr) (cda cc : Addr) (oc : Value) (od : Option Addr) (osl : Array (Option Value)), fd = PySem.W.fnX "__init__" qual (defArgs st) (defBody st) (defScope st) [("__class__", cc)] dV kV doc pm an (.ref cda) ct ∧
    K.lookup fI = some ⟨oc, od, .func fd, osl⟩ ∧ PySem.W.codeIn K (.ref cda) qual = true ∧
    (∃ (ccl : Value) (cdd : Option Addr) (vs : Array Value) (ccs : Array (Option Value)) (file : Str) (tf : Tok), K.lookup cda = some ⟨ccl, cdd, .fields vs, ccs⟩ ∧ vs[2]? = some (.str file tf) ∧ ((P.main.file : Str) == file) = true) ∧
    (∃ (cl : Value) (cld : Option Addr) (csl : Array (Option Value)), K.lookup cc = some ⟨cl, cld, .cell (some (.ref C)), csl⟩) ∧ dV = .none
  sup : PySem.W.ks_superIn K C C "__init__" = some (some (.builtin "ValueError.__init__"))
  sub : PySem.W.mroIn K C (.ref C) = some true
  subV : PySem.W.subIn K (.ref C) (.type "ValueError") = some true
  st : PySem.W.nsIn K cStatics "thirdparty.any" = some none
  no : PySem.W.findIn K (.ref C) f = some none
  top : (P.main.scope.names.lookup ("super" : Str)).isSome = false
/-- the promise of the __init__: the field stands -/
def spI (C : Addr) (f : Str) : Sp := fun vs H Q _ => ∃ (a : Addr) (y : V), vs = [.ref a, y] ∧ H a = some (exo a C none) ∧ ∀ dx, H dx = none → dx ≠ a → Q .non (upd (upd H dx (exd dx [(f, y)])) a (exo a C (some dx)))
section
variable {X : Cx} {pins : List (Addr × Obj)} {σ : L2.St} {H : Hp} {s : Shared} {a C u : Addr}
/-- the bound ValueError.__init__ called -/
theorem osup_ok {us : List Value} {A : Around} {E : Value → Shared → Prop} {Q : Value → Shared → Prop} (T : OexC X.K C) (I : Inv X pins σ H s) (e : H a = some (exo a C none)) (hu : s.heap.get? u = some (PySem.W.kxs_mw "ValueError.__init__" a)) (hl : us.length ≤ sizeLine) (h : ∀ s', Inv X pins σ H s' → Q .none s') :
    wpAny (model X.prog X.w) A (call (.ref u) us) Q E s := by
  obtain ⟨nm, q, N, bs, bm, sn, sub, ab, col,
        dd, k0, k1, k2, k3, k5, hC, hbm⟩ := T.cls
  obtain ⟨t1, ho⟩
        := exo_at I.hok e
  have hC' := I.kIn _ _ hC
  obtain ⟨hp, g, d, t, os⟩ := s
  refine wpAny_call
        (codeAny_of_tree ?_)
  show wpAny _ A.in1 (callAny (.ref u) ⟨us, []⟩) _ _ _
  simp only [callAny]
  refine wpAny_bind
        (wpAny_load hu ?_)
  simp only [PySem.W.kxs_mw, show (Value.type "method-wrapper" == Value.type "method" || Value.type "method-wrapper" == Value.type "builtin_function_or_method" || Value.type "method-wrapper" == Value.type "method-wrapper") = true by decide, if_true]
  refine PySem.W.KFB.if_so
        (by decide) ?_
  refine wpAny_bind (PySem.W.check_bound_init F.excBase_ValueError.toExcCallFacts hC' ho rfl ?_)
  refine wpAny_bind
        (wpAny_pure (wpAny_pure ?_))
  refine ⟨PySem.plainId_quiet F.excBase_ValueError.init.plain _, codeAny_builtin F.excBase_ValueError.initEntry ?_⟩
  refine PySem.W.exc_init_tree (cls := .ref C) (t0 := t1) (dv := none) (c2 := .none) (c3 := .none) (b4 := .bool false) ho hl fun h' k e' t' => ?_
  have J := I.write (t' := t) (x := a) (e := a) (o := exo a C none) (by rw [e]; exact True.intro) (.inl rfl) k ⟨_, e'⟩ (exo_ok e')
  have eu : upd H a (exo
        a C none) = H := by
    funext b
    by_cases hb : b = a
    · rw [hb, upd_same, e]
    · rw [upd_ne hb]
  rw [eu] at J
  exact h _ J
end
/-- the shape of its body -/
def initBody (f : Str) (p0 p1 p2 p3 p4 p5 p6 p7 p8 p9 : Pos) : List Stmt :=
  [.Expr (.Call (.Attribute (.Call (.Name "super" p0) [] [] p1) "__init__" p2) [.Name f p3] [] p4) p5, .Assign [.Attribute (.Name "self" p6) f p7] (.Name f p8) p9]
theorem lk1 {α : Type} {k y : Str} {c c' : α} (h : [(k, c)].lookup y = some c') : y = k ∧ c' = c := by
  by_cases e : y = k
  · subst e
    simp [List.lookup] at h
    exact ⟨rfl, h.symm⟩
  · have e2 : (y == k) = false := by simpa using e
    simp [List.lookup, e2] at h
theorem init_ok {CX : CXT} {P : Program} {w : World} {K : PySem.W.Frag} {mg : Str → Option Value} {base : Heap} {C fI : Addr} {fd : FuncData} {f : Str} {st : Stmt} {p0 p1 p2 p3 p4 p5 p6 p7 p8 p9 : Pos} {ar : Arg} (S : SupC P K C fI fd f st)
    (hb : defBody st = initBody f p0 p1 p2 p3 p4 p5 p6 p7 p8 p9) (Sc : NdefX.NScope ["self", f, "__class__"] ["self", f] ["__class__"] (defScope st)) (hmg : mg ("super" : Str) = none)
    (hks : (defScope st).names.lookup ("super" : Str) = some .globalImplicit) (hkc : (defScope st).names.lookup ("__class__" : Str) = some .free) (har : ((defArgs st).posonlyargs ++ (defArgs st).args).head? = some ar) (han : ar.arg = "self") (hfd : (f == ("__debug__" : Str)) = false) (hfc : (f == ("__classdict__" : Str)) = false) (hfs : f ≠ "self") (hsw : ∀ env, swapsWith (.Name f p8) (some (.Attribute (.Name "self" p6) f p7)) p9.line env = pure false)
    {pl : Sem Bool} (he : ∀ env, eval (.Call (.Attribute (.Call (.Name "super" p0) [] [] p1) "__init__" p2) [.Name f p3] [] p4) env = (do
      let ov ← attributeBase (.Call (.Name "super" p0) [] [] p1) "__init__" env (eval (.Call (.Name "super" p0) [] [] p1) env)
      standAt p2.atName
      let (fv, first) ← holding [ov] (getMethod ov "__init__" pl)
      callWith p4 fv first (backTo p4 (starEach [.Name f p3] env)) [])) : FnOk P w K mg base CX 1 fI fd ["self", f] (spI C f) := by
  refine ⟨fun vs H Q E h => by obtain ⟨a, y, rfl, _⟩ := h; rfl, fun A outer s H args us vs Q E hr e0 hbd r hsp => ?_⟩
  obtain ⟨a, y, rfl, ha, hq⟩ := hsp
  have T := S.T
  obtain ⟨qual, dV, kV, doc, pm, ct, an, cda, cc, oc, od, osl, rfl, lk, hcd, ⟨ccl, cdd, vs, ccs, file, tf, lcd, hvs, hfile⟩, ⟨cl, cld, csl, lcc⟩, _⟩ := S.fn
  cases r with
  | @cons _ u0 _ ur r1 r2 =>
  cases r2 with
  | @cons _ u _ ur2 ry r3 =>
  cases r3
  obtain rfl : u0 = Value.ref a := r1
  have KX : K.In s.heap := e0.mod.kin.keeps
        fun b o e => (e0.bs b o e).1
  have lim : s.heap.NoLimit := e0.mod.nolimit.keeps
        fun b o e => (e0.bs b o e).1
  have Hcc : H cc = none := (e0.bs cc _ (e0.mod.kin _ _ lcc)).2
  refine ks_codeAny_call_defAt (body := defBody st) (binds := [("self", .ref a), (f, u)]) hr.depth (KX _ _ lk) rfl lim (PySem.W.codeRec_of KX hcd) rfl hbd (fun x hx => Sc.nocell x hx) (fun x hx => Sc.par x.1 (List.of_mem_zip (l₁ := [("self" : Str), f]) (l₂ := [Value.ref a, u]) hx).1) (fun h₁ hns hk₁ => ?_) Sc.co Sc.gen Sc.kind
  have CA : NdefX.CellsAt [(("__class__" : Str), cc)] ["__class__"] [none] s.heap H := by
    refine ⟨rfl, fun y c e => ?_, fun x y c e1 e2 => ?_, fun i y e => ?_⟩
    · obtain ⟨_, rfl⟩ := lk1 e
      exact ⟨Hcc, _, _, KX _ _ lcc, rfl⟩
    · rw [(lk1 e1).1, (lk1 e2).1]
    · match i, e with
      | 0, e =>
        cases e
        exact ⟨cc, rfl, fun v h => by cases h⟩
  have I : Inv (NdefX.ncx CX P w K mg base ["self", f, "__class__"] ⟨"__init__", qual, defArgs st, defBody st, defScope st, [("__class__", cc)], cda⟩ fI A outer s H E) [] (NdefX.startF ["self", f, "__class__"] [.ref a, y] [none]) H { s with heap := h₁, toks := s.toks + 2 } :=
    NdefX.inv_startN Sc hr.hd e0 rfl (.cons rfl (.cons ry .nil)) CA hns hk₁
  have nb : ∀ x ∈ (defScope st).names, x.2 ≠ .cell := Sc.nocell
  refine PySem.ks_wpAt_mono (Q := fun fl s' => fl = .next ∧ CE outer P w H s Q .none s') ?_ (fun fl s' hfl => ?_) (fun e s' he => he)
  rotate_left
  · obtain ⟨rfl, hce⟩ := hfl
    exact hce
  generalize hX : NdefX.ncx CX P w K mg base ["self", f, "__class__"] ⟨"__init__", qual, defArgs st, defBody st, defScope st, [("__class__", cc)], cda⟩ fI A outer s H E = X at I
  have hen : callEnv (PySem.W.fnX "__init__" qual (defArgs st) (defBody st) (defScope st) [("__class__", cc)] dV kV doc pm an (.ref cda) ct) s.heap.objs.size fI = X.env := by rw [← hX]; rfl
  rw [hen]
  have hsc : X.env.scope = defScope st := by rw [← hX]; rfl
  have hkd : X.env.scope.kind = .function := by rw [hsc]; exact Sc.kind
  have hfu : X.env.func = some fI := by rw [← hX]; rfl
  have hco : X.env.code = .ref cda := by rw [← hX]; rfl
  have hce : X.env.cells = [(("__class__" : Str), cc)] := by rw [← hX]; rfl
  have hXK : X.K = K := by rw [← hX]; rfl
  have hXP : X.prog = P := by rw [← hX]; rfl
  have hXw : X.w = w := by rw [← hX]; rfl
  have hXm : X.mg = mg := by rw [← hX]; rfl
  have hXN : X.N = [("self" : Str), f, "__class__"] := by rw [← hX]; rfl
  have hgl : Gl X "super" := by show X.env.scope.names.lookup _ = _; rw [hsc]; exact hks
  rw [hb]
  unfold initBody
  refine PySem.ks_wpAt_execs_cons ?_
  refine PySem.ks_wpAt_Expr_any ?_ I.quiet rfl
  refine PySem.ks_wpAt_MethodCall ?_ (he _)
  obtain ⟨mb, hb1, hb2⟩ := I.mod.blt
  obtain ⟨nm, qn, N0, bs, bm, sn, sub, ab, col, dd, k0, k1, k2, k3, k5, hC, hbm⟩ := T.cls
  have hcl : PySem.W.clsIn K C = some { name := nm, bases := bs, mro := .ref C :: bm, ns := N0, qualname := qn, hasDict := true, slotNames := sn, subclasses := sub, abstract := ab, collection := col, hasDel := false } := by unfold PySem.W.clsIn; rw [hC] <;> rfl
  have K1 : K.In h₁ := by have := I.kIn; rw [hXK] at this; exact this
  have hloc : X.env.locals = s.heap.objs.size := by rw [← hX]; rfl
  have hself : X.env.kindOf "self" = some .local := by show X.env.scope.names.lookup _ = _; rw [hsc]; exact Sc.par _ (by simp)
  have hff : X.env.kindOf f = some .local := by show X.env.scope.names.lookup _ = _; rw [hsc]; exact Sc.par _ (by simp)
  obtain ⟨t1, ho⟩ := exo_at I.hok ha
  refine PySem.ks_wpAt_super_base (env := X.env) hgl (by show X.env.scope.names.lookup _ = _; rw [hsc]; exact hkc) (by decide) hfu (K1 _ _ lk) rfl har hco (K1 _ _ lcd) rfl hvs hfile S.top ?_
  refine PySem.W.ks_loadName_global hkd hgl (Calls.loadGlobal_builtin (by rw [I.ok.glob]; exact I.mod.glob.keeps I.bk) (by rw [hXm]; exact hmg) (by rw [I.ok.blt]; exact hb1.keeps I.bk) ((hb2 _ (by decide)).trans (show bootBuiltins "super" = some (.type "super") by decide +kernel)) ⟨rfl, ?_⟩)
  refine wpAny_loadName_free hkd (by show X.env.scope.names.lookup _ = _; rw [hsc]; exact hkc) (by rw [hce]; rfl) ⟨_, K1 _ _ lcc, rfl⟩ ?_
  rw [han]
  have hns' : h₁.Ns X.env.locals fun x => List.lookup x [(("self" : Str), Value.ref a), (f, u)].reverse := by rw [hloc]; exact hns
  have hv1 : List.lookup ("self" : Str) [(("self" : Str), Value.ref a), (f, u)].reverse = some (.ref a) := by
    have : (("self" : Str) == f) = false := by simpa using Ne.symm hfs
    simp [List.lookup, this]
  have hv2 : List.lookup f [(("self" : Str), Value.ref a), (f, u)].reverse = some u := by simp [List.lookup]
  refine wpAny_loadName_local hkd hself hns' hv1 ?_
  refine PySem.ks_wpAny_isType_cls (K1 _ _ hC) rfl ⟨rfl, ?_⟩
  refine PySem.ks_wpAny_call_super (K1 _ _ hC) rfl ho rfl (fun c e => by cases e) (PySem.W.looks_mroIn K1 S.sub) (fun h2 e2 kp2 => ?_)
  have I2 := I.kept (h' := h2) (t' := s.toks + 2) kp2
  have K2 : K.In h2 := fun b o z => kp2 b o (K1 b o z)
  have ia : PySem.W.InstAt h2 a { cls := .ref C, dict := none, data := .fields #[.ref t1, .none, .none, .none, .bool false, .none] } C none := ⟨kp2 _ _ ho, rfl, rfl, trivial⟩
  have hso := S.sup
  unfold PySem.W.ks_superIn at hso
  rw [hcl, Option.bind_some] at hso
  refine PySem.W.kxs_getMethod PySem.W.kxs_ValueError e2 (PySem.W.looks_opaque K2 S.st) ((PySem.W.looks_clsIn K2 hcl).andThen .now) rfl K2 hso (ia.type.andThen (PySem.W.looks_subIn K2 S.subV)) (PySem.W.ks_ne K2 ia hcl) (by decide) ?_
  have kp3 : ∀ b o, h2.get? b = some o → (h2.push (PySem.W.kxs_mw "ValueError.__init__" a)).get? b = some o := fun b o z => Heap.get?_push_of_some _ z
  have I3 := I2.kept (h' := h2.push (PySem.W.kxs_mw "ValueError.__init__" a)) (t' := s.toks + 2 + 1) kp3
  have hu : (h2.push (PySem.W.kxs_mw "ValueError.__init__" a)).get? h2.objs.size = some (PySem.W.kxs_mw "ValueError.__init__" a) := Heap.get?_push_at rfl rfl
  refine PySem.W.kxs_callWith (i := "ValueError.__init__") (x := a) rfl (Calls.evalArgs_plain ?_)
  show wpAny _ _ (spliced ((false, eval (.Name f p3) X.env) :: backTo p4 (starEach [] X.env))) _ _ _
  refine Calls.spliced_cons (wpAny_Name (wpAny_loadName_local hkd hff (hns'.keeps fun b o z => kp3 b o (kp2 b o z)) hv2 ?_) hfd)
  refine Calls.spliced_nil ⟨hu, ?_⟩
  have T' : OexC X.K C := by rw [hXK]; exact T
  have key := osup_ok (A := A.deeper X.env) (us := [u]) (E := fun e s' => X.xe e s') (Q := fun v s' => Inv X [] (NdefX.startF ["self", f, "__class__"] [.ref a, y] [none]) H s') T' I3 ha hu (by show 1 ≤ sizeLine; rw [sizeLine_eq]; omega) fun s' J => J
  rw [hXP, hXw] at key
  refine wpAny_mono key (fun v s3 J => ?_) fun e s' he => ?_
  · refine PySem.wpAt_of_wpAny ?_
    have p1 : PSs X [.Assign [.Attribute (.Name "self" p6) f p7] (.Name f p8) p9] _ := pss_cons (ps_ost (pe_var (i := 0) (by rw [hXN]; rfl) (.inl (by rw [hsc]; exact Sc.par _ (by simp)))) (pe_var (i := 1) (by rw [hXN]; rfl) (.inl (by rw [hsc]; exact Sc.par _ (by simp))) hfd hfc) (hsw _)) pss_nil
    have r1 := p1.run [] s3 _ H { nx := fun _ H' => Q .non H', rt := fun _ _ => False } J (by
      refine ⟨y, rfl, .ref a, rfl, a, C, rfl, T', by rw [hXK]; exact S.no, .inl ⟨ha, fun dx h1 h2 => hq dx h1 h2⟩⟩)
    rw [hXP, hXw] at r1
    have hXA : X.A = A.deeper X.env := by rw [← hX]; rfl
    rw [hXA] at r1
    refine wpAny_mono r1 (fun fl s' hs => ?_) fun e s' hs => ?_
    · cases fl with
      | next =>
        obtain ⟨σ', H', J', q⟩ := hs
        subst hX
        exact ⟨rfl, .non, H', J'.os, J'.bare, J'.base, J'.hok, rfl, q⟩
      | ret u =>
        obtain ⟨v, σ', H', J', rv, q⟩ := hs
        exact False.elim q
      | brk =>
        obtain ⟨_, _, _, q⟩ := hs
        exact False.elim q
      | cont =>
        obtain ⟨_, _, _, q⟩ := hs
        exact False.elim q
    · subst hX
      exact hs
  · subst hX
    exact he
/-- what is known of an own exception behind the top -/
structure ExcC (P : Program) (K : PySem.W.Frag) (mg : Str → Option Value) (x f : Str) (st : Stmt) (C : Addr) : Prop where
  sup : ∃ (fI : Addr) (fd : FuncData), SupC P K C fI fd f st ∧ PySem.W.findIn K (.ref C) "__init__" = some (some (.ref fI)) ∧ PySem.W.typeIn K (.ref fI) = some (.type "function")
  mgC : mg x = some (.ref C)
  mgS : mg ("super" : Str) = none
theorem sup_binds {P : Program} {K : PySem.W.Frag} {C fI : Addr} {fd : FuncData} {f : Str} {st : Stmt} (S : SupC P K C fI fd f st)
    (h : ∀ (qual : Str) (kV doc pm cdv ct : Value) (an : Option Addr) (cc : Addr) (u v : Value), bindArgs (PySem.W.fnX "__init__" qual (defArgs st) (defBody st) (defScope st) [("__class__", cc)] .none kV doc pm an cdv ct) ⟨[u, v], []⟩ = pure [(("self" : Str), u), (f, v)]) : Binds K fd ["self", f] [] := by
  obtain ⟨qual, dV, kV, doc, pm, ct, an, cda, cc, oc, od, osl, rfl, lk, hcd, _, _, rfl⟩ := S.fn
  exact .all fun us hl => by
    match us, hl with
    | [u, v], _ => exact h _ _ _ _ _ _ _ _ u v
theorem lost_sc : NdefX.NScope ["self", "within", "__class__"] ["self", "within"] ["__class__"] (defScope s_Lost_init) := NdefX.nscope_by (by decide +kernel)
theorem torn_sc : NdefX.NScope ["self", "ways", "__class__"] ["self", "ways"] ["__class__"] (defScope s_Torn_init) := NdefX.nscope_by (by decide +kernel)
theorem lost_init {CX : CXT} {P : Program} {w : World} {K : PySem.W.Frag} {mg : Str → Option Value} {base : Heap} {C fI : Addr} {fd : FuncData} (S : SupC P K C fI fd "within" s_Lost_init) (hm : mg ("super" : Str) = none) : FnOk P w K mg base CX 1 fI fd ["self", "within"] (spI C "within") :=
  init_ok S rfl lost_sc hm rfl rfl rfl rfl (by decide) (by decide) (by decide) (fun _ => rfl) (fun _ => rfl)
theorem torn_init {CX : CXT} {P : Program} {w : World} {K : PySem.W.Frag} {mg : Str → Option Value} {base : Heap} {C fI : Addr} {fd : FuncData} (S : SupC P K C fI fd "ways" s_Torn_init) (hm : mg ("super" : Str) = none) : FnOk P w K mg base CX 1 fI fd ["self", "ways"] (spI C "ways") :=
  init_ok S rfl torn_sc hm rfl rfl rfl rfl (by decide) (by decide) (by decide) (fun _ => rfl) (fun _ => rfl)
end Sh


set_option Elab.async false
set_option linter.all false
set_option maxRecDepth 100000
set_option maxHeartbeats 40000000
set_option autoImplicit false
/-! X2: raise; a def that may let an exception out -/
namespace Sh
open PySem PySem.Spec
      PyProof.Rows L2
section
variable {S : SC} {m : Bool} {ds : List Slot} {e : Expr} {rest : List Stmt} {d : PyData} {p pos pos2 : Pos} {D : DEnds}
/-- raise C(e), C's __init__ of the shape above -/
theorem js_raise {x f : Str} {C fI : Addr} {fd : FuncData} {k : Nat} (T : OexC S.K C) (iC : PySem.W.findIn S.K (.ref C) "__init__" = some (some (.ref fI))) (tI : PySem.W.typeIn S.K (.ref fI) = some (.type "function"))
    (F1 : FnOk S.prog S.w S.K S.mg S.base CX0 k fI fd ["self", f] (spI C f)) (hk : k + 1 ≤ S.k) (hb : Binds S.K fd ["self", f] []) (hm : S.mg x = some (.ref C)) (he : JE S ds e d) (kk : D.xs (.ref C) f d)
    (hg : S.scope.names.lookup x = some .globalImplicit := by rfl) (hdb : (x == ("__debug__" : Str)) = false := by decide)
    (hs : ∀ env, starEach [e] env = (false, eval e env) :: starEach [] env := by intro _; rfl) (hpl : ∀ env, (backTo pos (starEach [] env)).any (·.1) = false := by intro _; rfl) :
    JS S m (.Raise (some (.Call (.Name x p) [e] [] pos)) none pos2 :: rest) ds D := by
  intro Oe Fz O H σ s E hE
  refine ts_cons (ts := fun _ σ H => tMkO C (spI C f) [] (taOf S [e]) σ H fun cls d H' => S.W cls d σ H') (fun X h => ?_) ?_
  · refine ps_raise h.calm h.tk (pmk_oex (by rw [h.K]; exact T) (by rw [h.K]; exact iC) (by rw [h.K]; exact tI) (by rw [h.prog, h.w, h.K, h.mg, h.base]; exact F1) (h.room.mono hk) (by rw [h.K]; exact hb) .nil pass0 (gl_of h hg) (h.mg ▸ hm) (pa_taOf h) hdb (hs _) (hpl _))
  · refine ja_cons he ja_nil hs O σ H s.st _ fun vs H1 e1 r1 => ?_
    cases r1 with
    | @cons v _ vs _ r1 r2 =>
    cases r2
    refine ⟨by show 1 ≤ 1000; decide, fun a ha => ⟨a, v, rfl, upd_same, fun dx hdx hne => ?_⟩⟩
    have hd1 : H1 dx = none := by rw [upd_ne hne] at hdx; exact hdx
    refine ⟨rfl, dx, [(f, v)], upd_same, by rw [upd_ne hne, upd_same], hd1, ?_⟩
    have e2 : upd (del (upd (upd (upd H1 a (exo a C none)) dx (exd dx [(f, v)])) a (exo a C (some dx))) a) dx (.xd [(f, v)]) = upd H1 dx (.xd [(f, v)]) := by
      funext b
      by_cases hbd : b = dx
      · rw [hbd, upd_same, upd_same]
      · rw [upd_ne hbd, upd_ne hbd]
        by_cases hba : b = a
        · rw [hba, del_same, ha]
        · rw [del_ne hba, upd_ne hba, upd_ne hbd, upd_ne hba]
    rw [e2]
    have e3 : Same H (upd H1 dx (.xd [(f, v)])) := e1.trans (Same.upd_new hd1)
    exact hE.xs σ (.ref C) f v d dx _ (s.ext.trans e3) (fun hm => ((s.fd hm).2.1.mono e3).sub s.sub) (r1.mono ((hide_same (Same.upd_new hd1)).trans (hide_mono s.sub))) upd_same kk
end
/-! ### the promise: a value, or an exception with its dict -/
def spX (R : List PyData → (PyData → Prop) → (Value → Str → PyData → Prop) → Prop) : Sp := fun vs H Q E => ∃ (O : List Addr) (args : List PyData) (Pv : PyData → Prop) (Px : Value → Str → PyData → Prop), (∀ a ∈ O, H a ≠ none) ∧ RpAll (hide O H) vs args ∧ R args Pv Px ∧
  (∀ v d H', Same H H' → Rp (hide O H') v d → Pv d → Q v H') ∧ ∀ c f v d dx H', Same H H' → Rp (hide O H') v d → H' dx = some (.xd [(f, v)]) → Px c f d → E c (some dx) H'
abbrev scX (P : Program) (w : World) (K : PySem.W.Frag) (mg : Str → Option Value) (base : Heap) (N : List Str) (st : Stmt) (k : Nat) (fa : FA) (W : WX) : SC := ⟨P, w, K, mg, base, N, defScope st, fun _ => true, k, false, fa, W, none⟩
section
variable {P : Program} {w : World} {K : PySem.W.Frag} {mg : Str → Option Value} {base : Heap} {x : Str} {st : Stmt} {f : Addr} {fd : FuncData} {N ps : List Str} {k : Nat}
theorem fn_exc {R : List PyData → (PyData → Prop) → (Value → Str → PyData → Prop) → Prop} (F : FnP K x st f fd) (Sc : FnScope N ps (defScope st)) (hlen : ∀ args Pv Px, R args Pv Px → args.length = ps.length)
    (body : ∀ args Pv Px, R args Pv Px → ∀ fa W, JS (scX P w K mg base N st k fa W) false (defBody st) (slots N.length (args.map .val)) { nx := fun _ => Pv .none, rt := Pv, xs := Px }) :
    FnOk P w K mg base (L2.CX P w) (k + 1) f fd ps (spX R) := by
  refine F.ok Sc (fun vs H Q E h => ?_) fun cdv A outer s H vs Q E hr h => ?_
  · obtain ⟨O, args, Pv, Px, _, r, hR, _⟩ := h
    rw [r.len]
    exact hlen _ _ _ hR
  · obtain ⟨O, args, Pv, Px, dom, r, hR, kq, kx⟩ := h
    have hH : (scX P w K mg base N st k ⟨0, 0, []⟩ (fun c d _ H => E c d H)).Holds (cxOf (L2.CX P w) P w K mg base N x (defScope st) f cdv A outer s H E) :=
      ⟨rfl, rfl, rfl, rfl, rfl, rfl, Sc.nd, rfl, rfl, rfl, hr, (fun h => by cases h), takes_of rfl rfl rfl rfl, passes_of (K := fun e s'' => L2.CX P w outer H s E e s'') rfl, fun _ h => by cases h⟩
    refine ⟨tsOf (scX P w K mg base N st k ⟨0, 0, []⟩ (fun c d _ H => E c d H)) (defBody st), pss_tsOf hH, ?_⟩
    have hla : args.length = ps.length := hlen _ _ _ hR
    have sit : Sit false ⟨0, 0, []⟩ O H O H (L2.start N vs) (slots N.length (args.map .val)) := by
      have noA : ∀ {i : Nat} {xs : List PyData}, (args.map Slot.val)[i]? ≠ some (Slot.own xs) := fun {i xs} q => by
        rw [List.getElem?_map] at q
        cases z : args[i]? with
        | none => rw [z] at q; cases q
        | some y => rw [z] at q; cases q
      refine ⟨fun _ h => h, Same.refl H, fun i xs l q => ?_, fun l h1 h2 => absurd h1 h2, st_start dom (by rw [List.length_map, r.len]) (by rw [r.len, hla]; exact (sc_le Sc)) (fun i s q => ?_) (fun i xs q => noA q), fun h => by cases h⟩
      · rcases slots_get q with q | q
        · exact absurd q noA
        · cases q
      · rw [List.getElem?_map] at q
        cases z : args[i]? with
        | none => rw [z] at q; cases q
        | some y =>
          rw [z] at q
          cases q
          obtain ⟨v, h1, h2⟩ := r.get z
          exact ⟨v, h1, h2⟩
    exact body args Pv Px hR ⟨0, 0, []⟩ _ O H O H _ sit _ ⟨fun O' H' σ' ds' q hd => kq _ _ _ q.ext .non hd, fun v d' H' e _ r' hd => kq _ _ _ e r' hd, fun _ _ _ _ _ h => h.elim, fun _ _ _ _ _ h => h.elim, fun σ c f v d dx H' e _ r' h2 h => kx c f v d dx H' e r' h2 h⟩
end
end Sh


set_option Elab.async false
set_option linter.all false
set_option maxRecDepth 100000
set_option maxHeartbeats 40000000
set_option autoImplicit false
/-! X3: filled -/
namespace Sh
open PySem PySem.Spec
      PyProof.Rows L2
/-- the word by its weights -/
def foldI (p : Int) (n : Nat) (l : List (Int × List Int)) : List Int := l.foldl (fun word q => addI p word (timesI p q.1 q.2)) (List.replicate n 0)
theorem fold_len {p : Int} {n : Nat} {l : List (Int × List Int)} (h : ∀ q ∈ l, q.2.length = n) : (foldI p n l).length = n := by
  have : ∀ (l : List (Int × List Int)) (w : List Int), (∀ q ∈ l, q.2.length = n) → w.length = n → (l.foldl (fun word q => addI p word (timesI p q.1 q.2)) w).length = n := by
    intro l
    induction l with
    | nil => intro w _ hw; exact hw
    | cons q l ih =>
      intro w h hw
      refine ih _ (fun q hq => h q (List.mem_cons_of_mem _ hq)) ?_
      unfold addI timesI
      rw [List.length_map, List.length_zip, List.length_map, hw, h q List.mem_cons_self, Nat.min_self]
  exact this l _ h (by rw [List.length_replicate])
section
variable {P : Program} {w : World} {K : PySem.W.Frag} {mg : Str → Option Value} {base : Heap} {CL CT : Addr}
def R_filled (CL CT : Addr) (args : List PyData) (Pv : PyData → Prop) (Px : Value → Str → PyData → Prop) : Prop := ∃ (p : Int) (n : Nat) (rows : List (List Int)) (ds : List (Option Int)), args = [bookD p (n : Nat) rows, dgs ds] ∧ isP p ∧ 1 ≤ n ∧ n ≤ 30 ∧ ds.length = n ∧ Red p n rows ∧ Dg p ds ∧ (begunI ds).length < 2 ∧
  (weightsI p (rows.map (atP (heldI ds))) (toldI ds (heldI ds)) = none → barsI p rows ds ≠ [] ∧ Px (.ref CT) "ways" (tI (againstI p n rows ds))) ∧
  (∀ ws, weightsI p (rows.map (atP (heldI ds))) (toldI ds (heldI ds)) = some ws → (∀ r l, wordsI p n rows (lostI ds) = r :: l → Px (.ref CL) "within" (tI r)) ∧ (wordsI p n rows (lostI ds) = [] → Pv (tI (foldI p n (ws.zip rows)))))
theorem at_filled (L : Lib K mg fns bls) (EL : ExcC P K mg "Lost" "within" s_Lost_init CL) (ET : ExcC P K mg "Torn" "ways" s_Torn_init CT) :
    ∃ f fd, FnP K "filled" s_filled f fd ∧ mg "filled" = some (.ref f) ∧ FnOk P w K mg base (L2.CX P w) 6 f fd ["book", "digits"] (spX (R_filled CL CT)) := by
  obtain ⟨f, fd, F, hm⟩ := L.fn 37 _ _ rfl
  refine ⟨f, fd, F, hm, fn_exc (N := ["book", "digits", "kept", "some", "weights", "still", "word", "prime", "size", "rows", "digit", "row", "place"]) (k := 5) F ⟨rfl, rfl, rfl, by decide +kernel, rfl, by decide +kernel, by decide +kernel⟩ ?_ ?_⟩
  · rintro args Pv Px ⟨_, _, _, _, rfl, _⟩; rfl
  rintro args Pv Px ⟨p, n, rows, ds, rfl, hp, hn1, hn, hdn, hR, hD, hbg, hT, hS⟩ fa W
  have hp2 := hp.two
  have hp3 := hp.le
  have hh := held_len ds
  have hrl := red_len hR
  have hs : ∀ x ∈ rows.map (atP (heldI ds)), Wd p (heldI ds).length x := fun x hx => by
    obtain ⟨r, hr, rfl⟩ := List.mem_map.mp hx
    exact atP_wd (by omega) (hR.wd r hr) _
  have htl : (toldI ds (heldI ds)).length = (heldI ds).length := by unfold toldI; rw [List.length_map]
  refine js_expr (je_callD (d := .none) (ys := [.int (-1)]) (ok_want L) (by show 1 ≤ 5; decide) (ja_cons (je_call (d := .bool true) (ok_are_told L) (by show 2 ≤ 5; decide) (ja_cons (je_var (n := 0) rfl) (ja_cons (je_var (n := 1) rfl) ja_nil)) ⟨p, rows, ds, by rw [hdn], rfl, by omega, hD, hbg⟩) (ja_cons je_str ja_nil)) (fun H => .cons (.int _) .nil) ⟨_, _, rfl, rfl⟩) ?_
  refine js_unpack (js := [7, 8, 9]) (je_var (n := 0) rfl) (.one (.one (.one .nil))) rfl ?_
  refine js_asgCell (i := 2) (je_lcf (pr := fun k : Int => (ds.getD k.toNat none).isSome) (f := fun k : Int => .int k) (own := [("place", 12)]) rfl (jw_range1 (j := 12) (je_var (n := 8) rfl) (L.bl _ (by decide)) (by omega)) (pg_nameS (j := 12)) (fun place hm => ?_) (fun place hm hp => (je_var (n := 12) rfl)) (by rw [len_rangeI]; omega)) (d := lN (heldI ds)) ?_ ?_
  · obtain ⟨k, rfl, hk⟩ := range_nat hm
    exact jt_is (jt_notN (je_ixT (je_var (n := 1) rfl) (je_var (n := 12) rfl) (atI_dig (by omega)))) (notNone_dig _)
  · rw [filt_range]
    unfold lN lstE heldI
    rw [hdn]
    rfl
  refine js_asgM (f := fun r : List Int => tI (atP (heldI ds) r)) (i := 3) (own := [("row", 11)]) rfl (jw_tup (j := 11) (enc := tupE .int) (items := rows) (je_var (n := 9) rfl)) (pg_nameS (j := 11)) (fun row hm => JE.is (je_tupleL (je_lcm (f := fun k : Nat => .int (gI row k)) (own := [("place", 12)]) rfl (jw_list (j := 12) (enc := fun k : Nat => .int (k : Nat)) (items := heldI ds) (je_var (n := 2) rfl)) (pg_nameS (j := 12)) (fun place hm2 => (je_ixT (je_var (n := 11) rfl) (je_var (n := 12) rfl) (atI_int (by
      rw [(hR.wd row hm).1]; have := (held_lt hm2).1; omega)))) (by omega)) (L.bl _ (by decide))) (by unfold tI tupE atP; rw [List.map_map]; rfl)) (by omega) (d := lTI (rows.map (atP (heldI ds)))) (by unfold lTI lstE; rw [List.map_map]; rfl) ?_
  refine js_asgE (i := 4) (je_call (ok_weights_in L) (by show 3 ≤ 5; decide) (ja_cons (je_var (n := 7) rfl) (ja_cons (je_var (n := 3) rfl) (ja_cons (JE.is (je_tupleL (je_lcm (f := fun k : Nat => .int ((ds.getD k none).getD 0)) (own := [("place", 12)]) rfl (jw_list (j := 12) (enc := fun k : Nat => .int (k : Nat)) (items := heldI ds) (je_var (n := 2) rfl)) (pg_nameS (j := 12)) (fun place hm => (je_ixT (je_var (n := 1) rfl) (je_var (n := 12) rfl) (atI_held hm))) (by omega)) (L.bl _ (by decide))) (y := tI (toldI ds (heldI ds))) (by unfold tI tupE toldI; rw [List.map_map]; rfl)) ja_nil)))
    ⟨p, _, _, rfl, rfl, hp, by rw [htl]; omega, by rw [List.length_map]; omega, by rw [htl]; exact told_wd hD (by omega) _, by rw [htl]; exact hs⟩) rfl ?_
  cases hw : weightsI p (rows.map (atP (heldI ds))) (toldI ds (heldI ds)) with
  | none =>
    obtain ⟨hB, hP⟩ := hT hw
    refine js_iff (jt_isN (je_var (n := 4) rfl)) (fun _ => ?_) fun hc => by cases hc
    obtain ⟨fI, fdI, SU, h1, h2⟩ := ET.sup
    exact js_raise (k := 1) SU.T h1 h2 (torn_init SU ET.mgS) (by show 2 ≤ 5; decide) (sup_binds SU fun _ _ _ _ _ _ _ _ _ _ => rfl) ET.mgC (je_call (ok_check_against L) (by show 5 ≤ 5; decide) (ja_cons (je_var (n := 0) rfl) (ja_cons (je_var (n := 1) rfl) ja_nil)) ⟨p, n, rows, ds, rfl, rfl, hp, hn, hdn, hR, hD, hB⟩) hP
  | some ws =>
    obtain ⟨hS1, hS2⟩ := hS ws hw
    refine js_ifNo (jt_isN (je_var (n := 4) rfl)) rfl ?_
    refine js_asgE (i := 5) (je_call (ok_words_on L) (by show 5 ≤ 5; decide) (ja_cons (je_var (n := 0) rfl) (ja_cons (je_call (ok_lost_places L) (by show 1 ≤ 5; decide) (ja_cons (je_var (n := 1) rfl) ja_nil) ⟨ds, rfl, rfl, by omega⟩) ja_nil)) ⟨p, n, rows, _, rfl, rfl, hp, hn, hR⟩) rfl ?_
    cases hwd : wordsI p n rows (lostI ds) with
    | cons r l =>
      refine js_iff (jt_gt (je_len (je_ixT (je_var (n := 5) rfl) je_int rfl) (.t _) (L.bl _ (by decide))) je_int) (fun _ => ?_) fun hc => ?_
      · obtain ⟨fI, fdI, SU, h1, h2⟩ := EL.sup
        exact js_raise (k := 1) SU.T h1 h2 (lost_init SU EL.mgS) (by show 2 ≤ 5; decide) (sup_binds SU fun _ _ _ _ _ _ _ _ _ _ => rfl) EL.mgC (je_ixT (je_ixT (je_var (n := 5) rfl) je_int rfl) je_int (atI_nat (i := 0) rfl)) (hS1 r l hwd)
      · simp at hc
    | nil =>
      refine js_ifNo (jt_gt (je_len (je_ixT (je_var (n := 5) rfl) je_int rfl) (.t _) (L.bl _ (by decide))) je_int) rfl ?_
      refine js_asgE (i := 6) (je_repT (je_tup (ja_cons je_int ja_nil)) (je_var (n := 8) rfl) (by omega) (by omega)) (d := tI (List.replicate n 0)) ?_ ?_
      · unfold tI tupE
        rw [List.map_replicate]
        rfl
      refine js_forM (P := fun i ds' => ∃ a b c, ds' = [.val (bookD p (n : Nat) rows), .val (dgs ds), .val (lN (heldI ds)), .val (lTI (rows.map (atP (heldI ds)))), .val (tI ws), .val (bookD p (n : Nat) []), .val (tI (foldI p n ((ws.zip rows).take i))), .val (.int p), .val (.int (n : Nat)), .val (tTI rows), a, b, c])
        (jw_zipT (j1 := 10) (j2 := 11) (enc := PyData.int) (enc2 := tupE .int) (items := ws) (ys := rows) (je_var (n := 4) rfl) (je_var (n := 9) rfl) (L.bl _ (by decide))) (pg_twoS (j1 := 10) (j2 := 11)) ⟨_, _, _, rfl⟩ (fun i a ds' hi hP => ?_) fun ds' hP => ?_
      · obtain ⟨u1, u2, u3, rfl⟩ := hP
        have ha := List.of_mem_zip (List.mem_of_getElem? hi)
        have ef : foldI p n ((ws.zip rows).take (i + 1)) = addI p (foldI p n ((ws.zip rows).take i)) (timesI p a.1 a.2) := by
          rw [take_snoc hi]
          unfold foldI
          rw [List.foldl_append]
          rfl
        have hal : ∀ q ∈ (ws.zip rows).take i, q.2.length = n := fun q hq => (hR.wd _ (List.of_mem_zip (List.mem_of_mem_take hq)).2).1
        refine js_asgE (i := 6) (je_call (ok_added_by L) (by show 1 ≤ 5; decide) (ja_cons (je_var (n := 7) rfl) (ja_cons (je_var (n := 6) rfl) (ja_cons (je_call (ok_times_by L) (by show 1 ≤ 5; decide) (ja_cons (je_var (n := 7) rfl) (ja_cons (je_var (n := 10) rfl) (ja_cons (je_var (n := 11) rfl) ja_nil))) ⟨p, a.1, a.2, rfl, rfl, by omega, by rw [(hR.wd _ ha.2).1]; omega, fun x hx => by have := (hR.wd _ ha.2).2 x hx; omega⟩) ja_nil))) ⟨p, _, _, rfl, rfl, by rw [fold_len hal]; omega⟩) rfl (js_nil (by rw [ef]; exact ⟨_, _, _, rfl⟩))
      · obtain ⟨u1, u2, u3, rfl⟩ := hP
        refine js_ret (je_var (n := 6) rfl) ?_
        rw [List.take_length]
        exact hS2 hwd
end
end Sh


set_option Elab.async false
set_option linter.all false
set_option maxRecDepth 100000
set_option maxHeartbeats 40000000
set_option autoImplicit false
/-! X4: the suite of the law's try -/
namespace Sh
open PySem PySem.Spec
      PyProof.Rows L2
/-- isinstance(e, c), e the caught exception, that has its dict at dd -/
def rIsD (K : PySem.W.Frag) (C a dd : Addr) : List V → Hp → VK → Prop := fun xs H Q => ∃ (c : V) (cv : Value) (b : Bool), xs = [.ref a, c] ∧ (∀ u, RelV c u → u = cv) ∧ PySem.W.kitOne K (.ref C) cv = some b ∧ (∃ fs, H dd = some (.xd fs)) ∧ Q (.bl b) H
/-- what its class must say -/
structure IsxC (K : PySem.W.Frag) (C : Addr) : Prop where
  hcl : (PySem.W.clsIn K C).isSome = true
  hga : PySem.W.findIn K (.ref C) "__getattribute__" = some (some (.builtin "BaseException.__getattribute__"))
  hgt : PySem.W.findIn K (.ref C) "__getattr__" = some none
  hsub : PySem.W.subIn K (.ref C) (.type "BaseException") = some true
  ha : PySem.W.findIn K (.ref C) "__class__"
        = some (some (.builtin "object.__class__"))
  hn : PySem.W.specialIn K (.builtin "object.__class__")
        "__get__" = some (some (.builtin "getset_descriptor.__get__"))
  htk : PySem.W.takesIn K (.builtin
        "object.__class__") = some true
  hm : PySem.W.mroIn K C
        (.type "object") = some true
  hd : PySem.W.hasDictIn
        K C = true
theorem call_isD {X : Cx} {a C dd : Addr} {oe : Obj} {pn : List (Addr × Obj)} (T : IsxC X.K C) (hz : Zc (.ref C) (some dd) oe) (hf : ∃ vs, oe.data = .fields vs) : CallR (X.suite a ((a, oe) :: pn)) (.builtin "isinstance") (rIsD X.K C a dd) := by
  intro pins s σ
        H xs us Q I r h
  obtain ⟨c, cv, b, rfl, hcv, e, ⟨fs, hdd⟩, q⟩ := h
  match us, r with
  | [u0, u1], .cons r0 (.cons r1 .nil) =>
    obtain rfl : u0 = Value.ref a := r0
    have ec := hcv _ r1
    subst ec
    have hget := (I.pin (a, oe) (List.mem_append_left _ List.mem_cons_self)).1
    have hx : ObjOk X.prog X.w H s.heap dd (.xd fs) := I.hok dd _ hdd
    obtain ⟨mA, hns, _⟩ := hx
    obtain ⟨od, ho, _⟩ := lookIn_ns hns
    obtain ⟨vs, hv⟩ := hf
    have J : PySem.W.InstAt s.heap a oe C (some od) := ⟨hget, hz.1, by unfold PySem.W.notCls; rw [hv], by rw [hz.2]; exact ho⟩
    exact PySem.W.kia_one (PySem.W.kitx_exc T.hcl T.hga T.hgt T.hsub T.ha T.hn T.htk T.hm) I.kIn J e (fun z => nomatch z) fun tk => ⟨.bl b, H, I.kept (t' := tk) fun _ _ z => z, rfl, q⟩
/-- the contexts of the suite -/
structure SuF (K : PySem.W.Frag) (mg : Str → Option Value) (scope : Scope) (N : List Str) (a C dd : Addr) (X' : Cx) : Prop where
  ex : ∃ (X : Cx) (oe : Obj) (pn : List (Addr × Obj)), X' = X.suite a ((a, oe) :: pn) ∧ Zc (.ref C) (some dd) oe ∧ ∃ vs, oe.data = .fields vs
  K : X'.K = K
  mg : X'.mg = mg
  sc : X'.env.scope = scope
  N : X'.N = N
section
variable (F : Cx → Prop)
def teF (e : Expr) : TE := fun σ H Q => ∃ t : TE, (∀ X, F X → PE X e t) ∧ t σ H Q
def ttF (e : Expr) : TT := fun σ H Q => ∃ t : TT, (∀ X, F X → PT X e t) ∧ t σ H Q
def tsF (sts : List Stmt) : TS := fun D σ H => ∃ t : TS, (∀ X, F X → PSs X sts t) ∧ t D σ H
/-- e gives v, nothing changes -/
def EV (σ : L2.St) (H : Hp) (e : Expr) (v : V) : Prop := ∀ Q : VK, Q v H → teF F e σ H Q
def ET (σ : L2.St) (H : Hp) (e : Expr) (b : Bool) : Prop := ∀ Q : Bool → Hp → Prop, Q b H → ttF F e σ H Q
variable {F}
theorem pe_teF {X : Cx} {e : Expr} (h : F X) : PE X e (teF F e) := ⟨fun pins s σ H Q I ⟨_, ht, hq⟩ => (ht X h).run pins s σ H Q I hq⟩
theorem pt_ttF {X : Cx} {e : Expr} (h : F X) : PT X e (ttF F e) := ⟨fun pins s σ H Q I ⟨_, ht, hq⟩ => (ht X h).run pins s σ H Q I hq⟩
theorem pss_tsF {X : Cx} {sts : List Stmt} (h : F X) : PSs X sts (tsF F sts) := ⟨fun pins s σ H D I ⟨_, ht, hq⟩ => (ht X h).run pins s σ H D I hq⟩
variable {σ : L2.St} {H : Hp} {a b c e : Expr} {rest B : List Stmt} {pos p : Pos} {D : Ends} {v : V} {i : Nat} {x y : Bool} {t : Str}
theorem ev_and (ha : EV F σ H a (.bl x)) (hb : x = true → EV F σ H b (.bl y)) : EV F σ H (.BoolOp .And [a, b] pos) (.bl (x && y)) := fun Q q => by
  refine ⟨_, fun X h => pe_and (pe_teF h) (pe_one (pe_teF h)), ?_⟩
  refine ha _ ⟨x, rfl, ?_⟩
  cases x with
  | true => exact iteT (hb rfl _ q)
  | false => exact iteF q
theorem ev_not (ha : EV F σ H a (.bl x)) : EV F σ H (.UnaryOp .Not a pos) (.bl (!x)) := fun Q q => ⟨_, fun X h => pe_not (pe_teF h), ha _ ⟨x, rfl, q⟩⟩
theorem et_val (h : EV F σ H e (.bl x)) (he : ∀ env whole, isTrue e env whole = (do let v ← whole; standAt e.pos; holding [v] (truthy v)) := by intro _ _; rfl) : ET F σ H e x := fun Q q => ⟨_, fun X hX => pt_val (pe_teF hX) (he _), h _ ⟨x, rfl, q⟩⟩
theorem et_and (ha : ET F σ H a x) (hb : x = true → ET F σ H b y) : ET F σ H (.BoolOp .And [a, b] pos) (x && y) := fun Q q => by
  refine ⟨_, fun X h => PW.pt (pw_and (pt_ttF h) (pw_and1 (pt_ttF h))), ?_⟩
  refine ha _ ?_
  cases x with
  | true => exact iteT (hb rfl _ q)
  | false => exact iteF q
theorem ts_ifNo (hc : ET F σ H c false) (h : tsF F rest D σ H) : tsF F (.If c B [] pos :: rest) D σ H := by
  refine ⟨_, fun X hX => pss_cons (ps_if (pt_ttF hX) (pss_tsF hX) pss_nil) (pss_tsF hX), ?_⟩
  exact hc _ (iteF h)
theorem ts_ifYes (hc : ET F σ H c true) (h : tsF F B { D with nx := tsF F rest D } σ H) : tsF F (.If c B [] pos :: rest) D σ H := by
  refine ⟨_, fun X hX => pss_cons (ps_if (pt_ttF hX) (pss_tsF hX) pss_nil) (pss_tsF hX), ?_⟩
  exact hc _ (iteT h)
theorem ts_ret (h : teF F e σ H D.rt) : tsF F (.Return (some e) pos :: rest) D σ H := ⟨_, fun X hX => pss_cons (ps_ret (pe_teF hX)) (pss_tsF hX), h⟩
end
end Sh


set_option Elab.async false
set_option linter.all false
set_option maxRecDepth 100000
set_option maxHeartbeats 40000000
set_option autoImplicit false
/-! X5: the law's try gives what was told, or what was raised -/
namespace Sh
open PySem PySem.Spec
      PyProof.Rows L2
/-- what the written part says of an exception class C against the program's others -/
structure HOne (K : PySem.W.Frag) (C CR CI CP CS CN CL CB CT : Addr) (isL : Bool) (f : Str) : Prop where
  isx : IsxC K C
  exm : PySem.W.exmOne K (.ref C) (.ref CR) = some true
  kI : PySem.W.kitOne K (.ref C) (.ref CI) = some false
  kP : PySem.W.kitOne K (.ref C) (.ref CP) = some false
  kS : PySem.W.kitOne K (.ref C) (.ref CS) = some true
  kN : PySem.W.kitOne K (.ref C) (.ref CN) = some false
  kL : PySem.W.kitOne K (.ref C) (.ref CL) = some isL
  kB : PySem.W.kitOne K (.ref C) (.ref CB) = some false
  kT : PySem.W.kitOne K (.ref C) (.ref CT) = some (!isL)
  no : PySem.W.findIn K (.ref C) f = some none
structure HK (K : PySem.W.Frag) (mg : Str → Option Value) (CR CI CP CS CN CL CB CT : Addr) : Prop where
  mR : mg "RingError" = some (.ref CR)
  mI : mg "InvalidPaper" = some (.ref CI)
  mP : mg "PaperError" = some (.ref CP)
  mS : mg "ShelfError" = some (.ref CS)
  mN : mg "NotUsable" = some (.ref CN)
  mL : mg "Lost" = some (.ref CL)
  mB : mg "Barred" = some (.ref CB)
  mT : mg "Torn" = some (.ref CT)
  mi : mg "isinstance" = none
  one : HOne K CL CR CI CP CS CN CL CB CT true "within"
  two : HOne K CT CR CI CP CS CN CL CB CT false "ways"
abbrev Nh : List Str := ["_law_call", "error", "_law_is_own"]
section
variable {K : PySem.W.Frag} {mg : Str → Option Value} {a C C2 dd : Addr} {σ : L2.St} {H : Hp} {p p1 p2 pos : Pos} {v : V} {b : Bool} {x : Str} {rest : List Stmt} {D : Ends} {e : Expr} {i : Nat}
abbrev Fh (K : PySem.W.Frag) (mg : Str → Option Value) (a C dd : Addr) : Cx → Prop := SuF K mg (defScope s_L_heard) Nh a C dd
theorem ev_varH (hs : σ[i]? = some (some v)) (hN : Nh[i]? = some x := by rfl) (hv : Vis (defScope s_L_heard) x := by exact Or.inl rfl) (h1 : (x == ("__debug__" : Str)) = false := by decide) (h2 : (x == ("__classdict__" : Str)) = false := by decide) : EV (Fh K mg a C dd) σ H (.Name x p) v := fun Q q =>
  ⟨tVar i, fun X h => pe_var (by rw [h.N]; exact hN) (by rw [h.sc]; exact hv) h1 h2, v, hs, q⟩
theorem ev_isC (T : IsxC K C) (hs : σ[1]? = some (some (.ref a))) (hd : ∃ fs, H dd = some (.xd fs)) (hm : mg ("isinstance" : Str) = none) (hmx : mg x = some (.ref C2)) (hk : PySem.W.kitOne K (.ref C) (.ref C2) = some b)
    (hg : (defScope s_L_heard).names.lookup x = some .globalImplicit := by rfl) (hdb : (x == ("__debug__" : Str)) = false := by decide) (he : ∀ env, starEach [.Name "error" p1, .Name x p2] env = (false, eval (.Name "error" p1) env) :: starEach [.Name x p2] env := by intro _; rfl) :
    EV (Fh K mg a C dd) σ H (.Call (.Name "isinstance" p) [.Name "error" p1, .Name x p2] [] pos) (.bl b) := fun Q q => by
  refine ⟨tCB (rIsD K C a dd) (tCons (tVar 1) (tCons (tC (.ref C2)) tNil)), fun X h => ?_, ?_⟩
  · have hgi : Gl X "isinstance" := by show X.env.scope.names.lookup _ = _; rw [h.sc]; rfl
    have hgx : Gl X x := by show X.env.scope.names.lookup _ = _; rw [h.sc]; exact hg
    have hv : PE X (.Name "error" p1) (tVar 1) := pe_var (by rw [h.N]; rfl) (by rw [h.sc]; exact .inl rfl)
    have hc : PE X (.Name x p2) (tC (.ref C2)) := pe_glob hgx (by rw [h.mg]; exact hmx) rfl hdb
    have hmi : X.mg "isinstance" = none := by rw [h.mg]; exact hm
    have hK := h.K
    obtain ⟨X0, oe, pn, rfl, hz, hf⟩ := h.ex
    have T' : IsxC X0.K C := by rw [show X0.K = K from hK]; exact T
    rw [← show X0.K = K from hK]
    exact pe_callB (call_isD T' hz hf) hgi hmi (by decide +kernel) (pa_cons hv (pa_cons hc pa_nil) (he _)) (by decide) (by decide) (he _)
  · exact ⟨.ref a, hs, .ref C2, _, b, rfl, fun u r => r, hk, hd, q⟩
/-- ('..', error.f) -/
theorem te_pairH {f s : Str} {n1 n2 : Nat} {p3 p4 p5 : Pos} {Q : VK} (T : IsxC K C) (hno : PySem.W.findIn K (.ref C) f = some none) (hs : σ[1]? = some (some (.ref a))) (hd : H dd = some (.xd [(f, v)])) (h : ∀ q, H q = none → Q (.ref q) (upd H q (.tup [.str s, v])))
    (hb : ∀ env, attributeBase (.Name "error" p3) f env (eval (.Name "error" p3) env) = eval (.Name "error" p3) env := by intro _; rfl)
    (he : ∀ env, starEach [.Constant (.str s) n1 p1, .Attribute (.Name "error" p3) f p4] env = (false, eval (.Constant (.str s) n1 p1) env) :: starEach [.Attribute (.Name "error" p3) f p4] env := by intro _; rfl)
    (he2 : ∀ env, starEach [.Attribute (.Name "error" p3) f p4] env = (false, eval (.Attribute (.Name "error" p3) f p4) env) :: starEach [] env := by intro _; rfl) :
    teF (Fh K mg a C dd) (.Tuple [.Constant (.str s) n1 p1, .Attribute (.Name "error" p3) f p4] n2 p5) σ H Q := by
  refine ⟨tTup (tCons (tC (.str s)) (tCons (tXf a (.ref C) (some dd) C f (tVar 1)) tNil)), fun X h => ?_, ?_⟩
  · have hv : PE X (.Name "error" p3) (tVar 1) := pe_var (by rw [h.N]; rfl) (by rw [h.sc]; exact .inl rfl)
    have hK := h.K
    obtain ⟨X0, oe, pn, rfl, hz, hf⟩ := h.ex
    have hK0 : X0.K = K := hK
    exact pe_tup (pa_cons pe_str (pa_cons (pe_xf ⟨by rw [hK0]; exact T.hga, by rw [hK0]; exact T.hgt, by rw [hK0]; exact T.hsub, by rw [hK0]; exact T.hd⟩ (by rw [hK0]; exact hno) hz hf hv (hb _)) pa_nil (he2 _)) (he _))
  · refine ⟨.ref a, hs, rfl, rfl, dd, [(f, v)], v, rfl, hd, by rw [lookup_put, if_pos rfl], ?_⟩
    exact ⟨by show 2 ≤ sizeLine; rw [sizeLine_eq]; omega, h⟩
theorem te_ifYes {F : Cx → Prop} {c t u : Expr} {Q : VK} (hc : ET F σ H c true) (h : teF F t σ H Q) : teF F (.IfExp c t u pos) σ H Q := by
  refine ⟨_, fun X hX => pe_ifExp (pt_ttF hX) (pe_teF hX) (pe_teF hX), ?_⟩
  exact hc _ (iteT h)
def suiteOf : List Stmt → List Stmt
  | [.Try _ [.ExceptHandler _ _ sts _] _ _ _] => sts
  | _ => []
theorem ts_setOwn {p' : Pos} (he : EV (Fh K mg a C dd) σ H e v) (h : tsF (Fh K mg a C dd) rest D (σ.set 2 (some v)) H) (hs : ∀ env, swapsWith e (some (.Name "_law_is_own" p')) pos.line env = pure false := by intro _; rfl) : tsF (Fh K mg a C dd) (.Assign [.Name "_law_is_own" p'] e pos :: rest) D σ H := by
  refine ⟨_, fun X hX => pss_cons (ps_set (i := 2) (by rw [hX.N]; decide) (by rw [hX.N]; rfl) (by rw [hX.sc]; exact .inl rfl) (pe_teF hX) (hs _) (.inr (by rw [hX.sc]; rfl))) (pss_tsF hX), ?_⟩
  exact he _ h
variable {CR CI CP CS CN CL CB CT : Addr}
theorem suite_lost (A : HK K mg CR CI CP CS CN CL CB CT) {u w : Option V} (hd : H dd = some (.xd [("within", v)])) (h : ∀ q, H q = none → D.rt (.ref q) (upd H q (.tup [.str "lost", v]))) :
    tsF (Fh K mg a CL dd) (suiteOf (defBody s_L_heard)) D [u, some (.ref a), w] H := by
  have T := A.one
  have hx : ∃ fs, H dd = some (.xd fs) := ⟨_, hd⟩
  refine ts_ifNo (et_and (y := true) (et_val (ev_isC T.isx rfl hx A.mi A.mI T.kI)) fun hc => by cases hc) ?_
  refine ts_setOwn (ev_and (ev_isC T.isx rfl hx A.mi A.mS T.kS) fun _ => ev_not (ev_isC T.isx rfl hx A.mi A.mP T.kP)) ?_
  refine ts_ifNo (et_and (x := true) (et_val (ev_varH (i := 2) rfl)) fun _ => et_val (ev_isC T.isx rfl hx A.mi A.mN T.kN)) ?_
  refine ts_ifYes (et_and (x := true) (et_val (ev_varH (i := 2) rfl)) fun _ => et_val (ev_isC T.isx rfl hx A.mi A.mL T.kL)) ?_
  exact ts_ret (te_pairH T.isx T.no rfl hd h)
theorem suite_torn (A : HK K mg CR CI CP CS CN CL CB CT) {u w : Option V} (hd : H dd = some (.xd [("ways", v)])) (h : ∀ q, H q = none → D.rt (.ref q) (upd H q (.tup [.str "torn", v]))) :
    tsF (Fh K mg a CT dd) (suiteOf (defBody s_L_heard)) D [u, some (.ref a), w] H := by
  have T := A.two
  have hx : ∃ fs, H dd = some (.xd fs) := ⟨_, hd⟩
  refine ts_ifNo (et_and (y := true) (et_val (ev_isC T.isx rfl hx A.mi A.mI T.kI)) fun hc => by cases hc) ?_
  refine ts_setOwn (ev_and (ev_isC T.isx rfl hx A.mi A.mS T.kS) fun _ => ev_not (ev_isC T.isx rfl hx A.mi A.mP T.kP)) ?_
  refine ts_ifNo (et_and (x := true) (et_val (ev_varH (i := 2) rfl)) fun _ => et_val (ev_isC T.isx rfl hx A.mi A.mN T.kN)) ?_
  refine ts_ifNo (et_and (x := true) (et_val (ev_varH (i := 2) rfl)) fun _ => et_val (ev_isC T.isx rfl hx A.mi A.mL T.kL)) ?_
  refine ts_ifNo (et_and (x := true) (et_val (ev_varH (i := 2) rfl)) fun _ => et_val (ev_isC T.isx rfl hx A.mi A.mB T.kB)) ?_
  exact ts_ret (te_ifYes (et_and (x := true) (et_val (ev_varH (i := 2) rfl)) fun _ => et_val (ev_isC T.isx rfl hx A.mi A.mT T.kT)) (te_pairH T.isx T.no rfl hd h))
end
end Sh


set_option Elab.async false
set_option linter.all false
set_option maxRecDepth 100000
set_option maxHeartbeats 40000000
set_option autoImplicit false
/-! X6: _law_heard(lambda: ..) -/
namespace Sh
open PySem PySem.Spec
      PyProof.Rows L2
open LamX (GivesTo CodeO)
def TTh (CL CT : Addr) : (XK → Hp → VK → Prop) → Hp → VK → Prop := fun tl H Q =>
  tl (fun cls d H' => ∃ (C dd : Addr) (v : V), cls = .ref C ∧ d = some dd ∧ ((C = CL ∧ H' dd = some (.xd [("within", v)]) ∧ ∀ q, H' q = none → Q (.ref q) (upd H' q (.tup [.str "lost", v]))) ∨
    (C = CT ∧ H' dd = some (.xd [("ways", v)]) ∧ ∀ q, H' q = none → Q (.ref q) (upd H' q (.tup [.str "torn", v]))))) H (fun v H' => [V.str "told", v].length ≤ sizeLine ∧ ∀ q, H' q = none → Q (.ref q) (upd H' q (.tup [.str "told", v])))
section
variable {X : Cx} {CR CI CP CS CN CL CB CT : Addr}
theorem heard_gives {g : Addr} {cdg : Value} {q : Str} (A : HK X.K X.mg CR CI CP CS CN CL CB CT) : GivesTo X Nh "_law_heard" (defScope s_L_heard) g cdg (defBody s_L_heard) "_law_call" q (TTh CL CT) := by
  intro f c' s H Q tl act hc h
  have hgl : Gl (cxOf C8.CX0 X.prog X.w X.K X.mg X.base Nh "_law_heard" (defScope s_L_heard) g cdg X.A X.stack s H C8.E0).nox "RingError" := rfl
  refine ⟨_, pss_one (ps_try_as (X := (cxOf C8.CX0 X.prog X.w X.K X.mg X.base Nh "_law_heard" (defScope s_L_heard) g cdg X.A X.stack s H C8.E0).nox) (c := .ref CR) (i := 1) (Wout := fun _ _ _ _ => False)
      (tb := fun W D σ H => ∃ Ech : XK, (∀ cls d σ' H', Ech cls d H' → W cls d σ' H') ∧ σ[0]? = some (some (.ref f)) ∧ H c' = some (CodeO c' q) ∧ tl Ech H fun v H' => [V.str "told", v].length ≤ sizeLine ∧ ∀ q, H' q = none → D.rt (.ref q) (upd H' q (.tup [.str "told", v])))
      (ts := fun a cls d D σ H => σ.length = 3 → ∃ C dd, cls = .ref C ∧ d = some dd ∧ tsF (Fh X.K X.mg a C dd) (suiteOf (defBody s_L_heard)) D σ H)
      rfl rfl (show Nh.Nodup by decide) rfl rfl ⟨hgl, by decide, .inl A.mR⟩ LamX.takes0 (fun W pn xe tk _ => ?_) (fun a oe cls d pn hz hf => ?_)), ?_⟩
  · refine ⟨fun pins s'
          σ H' D I h' => ?_⟩
    obtain ⟨Ech, hW,
          h1, h2, h3⟩ := h'
    have hp := fun p1 p2 => act W pn xe Ech p1 p2 tk hW
    exact PSs.run (pss_one (ps_ret (pe_tup (pa_cons pe_str (pa_cons (hp _ _) pa_nil))))) pins s' σ H' D I ⟨h1, h2, h3⟩
  · refine ⟨fun pins s'
          σ H' D I h' => ?_⟩
    obtain ⟨C, dd, rfl, rfl, h1⟩ := h' I.len
    exact PSs.run (pss_tsF ⟨⟨_, oe, pn, rfl, hz, hf⟩, rfl, rfl, rfl, rfl⟩) pins s' σ H' D I h1
  · refine ⟨_, fun cls d σ' H' hx => ?_, rfl, hc, h⟩
    obtain ⟨C, dd, v, rfl, rfl, hx⟩ := hx
    rcases hx with ⟨rfl, h1, h2⟩ | ⟨rfl, h1, h2⟩
    · refine ⟨true, A.one.exm, fun _ a na hl => ⟨_, dd, rfl, rfl, ?_⟩, fun hb => by cases hb⟩
      rw [List.length_set] at hl
      match σ', hl with
      | [u, x, w], _ => exact suite_lost A h1 h2
    · refine ⟨true, A.two.exm, fun _ a na hl => ⟨_, dd, rfl, rfl, ?_⟩, fun hb => by cases hb⟩
      rw [List.length_set] at hl
      match σ', hl with
      | [u, x, w], _ => exact suite_torn A h1 h2
end
end Sh


set_option Elab.async false
set_option linter.all false
set_option maxRecDepth 100000
set_option maxHeartbeats 40000000
set_option autoImplicit false
/-! X7: a lambda is made, and but its own table all stays -/
namespace Sh
open PySem PySem.Spec
      PyProof.Rows L2
open LamX (GivesTo CodeO Tabs TabB LamS lamEnv lamCx)
/-- all but what stands at P stays -/
def ExtP (P : Addr) (H H' : Hp) : Prop := ∀ b o, b ≠ P → H b = some o → H' b = some o
abbrev lamQ (X : Cx) : Str := X.env.qual ++ "<lambda>"
abbrev lamO (X : Cx) (params : Arguments) (body : Expr) (scope : Scope) (pm ctv : Value) (c' : Addr) : Obj := PySem.W.kla_obj "<lambda>" (lamQ X) params body scope (cloFrom X.env.cells scope.names []) pm c' ctv
section
variable {X : Cx} {pins : List (Addr ×
      Obj)} {σ : L2.St} {H : Hp} {s : Shared}
theorem nofrN (I : Inv X pins σ H s) {f : Addr} (hf : s.heap.objs.size ≤ f) : f ∉ frs X.stack := fun z =>
  (List.mem_cons.mp (I.stkSub _ z)).elim (fun e => Nat.lt_irrefl _ (Nat.lt_of_lt_of_le (show f < s.heap.objs.size from e ▸ I.lt) hf)) (I.nofs hf)
theorem lam_make3 {T : List (Addr × Str)} {c P : Addr} {params : Arguments} {body : Expr} {scope : Scope} {pos : Pos} {E Q : Value → Shared → Prop} (I : Inv X pins σ H s) (TB : TabB X.base X.mg c P) (hcode : X.env.code = .ref c)
    (hm : (P, lamQ X) ∈ T) (hu : ∀ p ∈ T, p.1 = P → p.2 = lamQ X) (hT : Tabs T H) (hdef : defaultsOf params X.env = ([], []))
    (hfree : ∀ y ∈ scope.names, y.2 = .free → ∃ c, X.env.cells.lookup y.1 = some c)
    (h : ∀ (f c' : Addr) (pm ctv : Value) (H1 : Hp) (s' : Shared), Inv X pins σ H1 s' → ExtP P H H1 → Tabs T H1 → s'.heap.get? f = some (lamO X params body scope pm ctv c') → H1 f = none → f ∉ frs X.stack → H1 c' = some (CodeO c' (lamQ X)) → Q (.ref f) s') :
    wpAny (model X.prog X.w) X.A (eval (.Lambda
          params body scope pos) X.env) Q E s := by
  obtain ⟨ps, hP, tr, am⟩ := hT _ hm
  have gP : s.heap.get? P = some { cls := .none, data := .fields ps } := I.hok P _ hP
  refine PySem.W.kla_eval
        hdef ?_
  cases hc : codeAmong
        pos ps.toList with
  | some cv =>
    obtain ⟨c', rfl, co⟩ := am pos cv hc
    refine PySem.W.kla_makeFunctionHit (mg := X.mg) (c := c) (P := P) (ps := ps) (closure_ok hfree) I.ok.glob (I.mod.glob.keeps I.bk) hcode (TB.code.keeps I.bk) gP tr hc (TB.bm.keeps I.bk) fun ctv h' tk hx hz => ?_
    have J : Inv X pins σ H { s with heap := h'.push (lamO X params body scope ((X.mg "__name__").getD .none) ctv c'), toks := tk } := I.kept fun b o z => Heap.get?_push_of_some _ (hx b o z)
    exact h h'.objs.size c' _ ctv H _ J (fun _ _ _ z => z) hT (Heap.get?_push_size _ rfl) (I.hok.fresh hz) (nofrN I hz) co
  | none =>
    refine PySem.W.kla_makeFunction (mg := X.mg) (c := c) (P := P) (ps := ps) (closure_ok hfree) I.ok.glob (I.mod.glob.keeps I.bk) hcode (TB.code.keeps I.bk) gP tr hc TB.gP (TB.bm.keeps I.bk) fun c' ctv h' tk hx hge hlt hrec htb => ?_
    obtain ⟨c2, oc, vs, t, z2, ho, hd, hv⟩ := hrec
    cases z2
    have nC : H c' = none
          := I.hok.fresh hge
    have hz : s.heap.objs.size ≤ h'.objs.size := Nat.le_trans hge (Nat.le_of_lt hlt)
    let H1 : Hp := upd (upd H P (.tbl (ps ++ #[rawInt pos.line, rawInt pos.col, .ref c']))) c' (CodeO c' (lamQ X))
    have J := LamX.inv_table (t' := tk) (more := #[rawInt pos.line, rawInt pos.col, .ref c']) (h' := h'.push (lamO X params body scope ((X.mg "__name__").getD .none) ctv c')) I hP
      (fun b o hb z => Heap.get?_push_of_some _ (hx b o hb z)) (Heap.get?_push_of_some _ htb) hge ⟨oc, vs, t, Heap.get?_push_of_some _ ho, hd, hv⟩
    have ext : ExtP P H H1 := fun b o hb z => by
      show upd (upd H P _) c' _ b = _
      rw [upd_ne (ne_of_none z nC), upd_ne hb]
      exact z
    have codeK : ∀ c0 q, H c0 = some (CodeO c0 q) → H1 c0 = some (CodeO c0 q) := fun c0 q z => ext _ _ (fun w => by
      rw [w, hP] at z
      exact LamX.codeO_ne ps (Option.some.inj z).symm) z
    have eL : (ps ++ #[rawInt pos.line, rawInt pos.col, .ref c']).toList
          = ps.toList ++ [rawInt pos.line, rawInt pos.col, .ref c'] := by simp
    have n1 : H1 h'.objs.size = none := by
      show upd (upd H P _) c' _ _ = _
      rw [upd_ne (Nat.ne_of_gt hlt), upd_ne (Nat.ne_of_gt (Nat.lt_of_lt_of_le (Heap.lt_size gP) hz))]
      exact I.hok.fresh hz
    have T1 : Tabs T H1 := fun p hp => by
      by_cases hb : p.1 = P
      · rw [hu p hp hb, hb]
        refine ⟨_, by show upd (upd H P _) c' _ P = _; rw [upd_ne (ne_of_none hP nC), upd_same], by rw [eL]; exact PySem.TriplesOk_snoc _ _ _ _ tr, fun p' cv hcv => ?_⟩
        rw [eL] at hcv
        rcases LamX.among_app _ tr hcv with z | z
        · obtain ⟨c0, z1, z2⟩ := am p' cv z
          exact ⟨c0, z1, codeK _ _ z2⟩
        · exact ⟨c', z, upd_same⟩
      · obtain ⟨ps', a1,
              a2, a3⟩ := hT p hp
        refine ⟨ps', ext _ _ hb a1, a2, fun p' cv hcv => ?_⟩
        obtain ⟨c0, z1, z2⟩ := a3 p' cv hcv
        exact ⟨c0, z1, codeK _ _ z2⟩
    exact h h'.objs.size c' _ ctv H1 _ J ext T1 (Heap.get?_push_size _ rfl) n1 (nofrN I hz) upd_same
end
def tLamP (T : List (Addr × Str)) (P : Addr) (TT : (XK → Hp → VK → Prop) → Hp → VK → Prop) (t : XK → TE) : TE := fun σ H Q => Tabs T H ∧ ∀ H1, ExtP P H H1 → Tabs T H1 → TT (fun E H' Q' => t E σ H' Q') H1 Q
section
variable {X : Cx}
theorem pe_lamcallP {T : List (Addr × Str)} {TT : (XK → Hp → VK → Prop) → Hp → VK → Prop} {x a : Str} {g c P : Addr} {k : Nat} {pg : Arguments} {bg : List Stmt} {sg : Scope} {dV kV doc pm cdv ct oc : Value} {an od : Option Addr} {osl : Array (Option Value)} {Ng : List Str}
    {params : Arguments} {body : Expr} {scope : Scope} {t : XK → TE} {p lpos pos : Pos}
          (hg : Gl X x) (hm : X.mg x = some (.ref g)) (hk : PySem.W.keepIn X.K (.ref g) = true)
    (lk : X.K.lookup g = some ⟨oc, od, .func (PySem.W.fnOf x x pg bg sg dV kV doc pm an cdv ct), osl⟩) (hcg : PySem.W.codeIn X.K cdv x = true) (hb
          : L2.Binds X.K (PySem.W.fnOf x x pg bg sg dV kV doc pm an cdv ct) [a] []) (Sg : FnScope Ng [a] sg) (hNg : Ng[0]? = some a) (hva : Vis sg a)
    (hG : GivesTo X Ng x sg g cdv bg a (lamQ X) TT) (TB : TabB X.base X.mg c P) (hcode : X.env.code = .ref c) (hmT : (P, lamQ X) ∈ T) (hu : ∀ p ∈ T, p.1 = P → p.2 = lamQ X)
    (hr : Room (k + 2) X.A) (L : LamS X.env.scope scope) (hdef : defaultsOf params X.env = ([], []))
    (hbind : ∀ (q : Str) (cl : List (Str × Addr)) (pm cv ctv : Value), bindArgs
          (PySem.W.kla_fn "<lambda>" q params body scope cl pm cv ctv) ⟨[], []⟩ = pure [])
    (hbody : ∀ (A : Around) (outer : List Env) (s : Shared) (H : Hp) (E : XK) (f c' : Addr), Room k
          (A.deeper (lamEnv X scope s.heap.objs.size f c')) → PE (lamCx X A outer s H E scope f c') body (t E))
    (hdb : (x == ("__debug__" : Str)) = false :=
          by decide) (hd : (a == ("__debug__" : Str)) = false := by decide) (hcd : (a == ("__classdict__" : Str)) = false := by decide) :
    PE X (.Call (.Name x p) [.Lambda params body scope lpos] [] pos) (tLamP T P TT t) := by
  refine ⟨fun pins s σ H Q I hh => wpAny_Call_Name_kw (ld_glob I hg hm (PySem.W.callWith_K (h₀ := X.base) I.ok.mod.kin hk ?_ (by rfl) (by rfl)) hdb)⟩
  show wpAny _ _ (spliced ((false, eval (.Lambda params body
        scope lpos) X.env) :: backTo pos (starEach [] X.env))) _ _ s
  refine Calls.spliced_cons (lam_make3 I TB hcode hmT hu hh.1 hdef (L.has I.ok) fun f c' pm' ctv H1 s' I1 eN T1 hf hfn hfr hco => Calls.spliced_nil ⟨I1.kIn, ?_⟩)
  have rc : codeAny (model X.prog X.w) X.A (.call (.ref g) ⟨[.ref
        f], []⟩) (CR C8.CX0 X.stack X.prog X.w H1 s' Q C8.E0) s' := by
    refine LamX.run_ofS (N := Ng) (ps := [a]) (us := [.ref f]) (vs := [.ref f]) lk hcg Sg hr I1.env0 (hb s' [.ref f] I1.kIn rfl) (.cons rfl .nil) rfl fun hr' => ?_
    obtain ⟨tt, h1, h2⟩ := hG f c' s' H1 Q (fun E H' Q' => t E σ H' Q') (fun W pn xe E p1 p2 tk hW => LamX.pe_act (i := 0) I1 L hf hfn hfr (hbind _ _ _ _ _) tk hW hr' (fun A outer s H hr2 => hbody A outer s H E f c' hr2) hNg hva hd hcd) hco (hh.2 H1 eN T1)
    exact ⟨tt, h1.nox, h2⟩
  refine wpAny_call (codeAny_mono
        rc fun r s2 hq => ?_)
  match r, hq with
  | .ok (.ret u), hq => exact I1.after hq
end
end Sh


set_option Elab.async false
set_option linter.all false
set_option maxRecDepth 100000
set_option maxHeartbeats 40000000
set_option autoImplicit false
/-! Y1: the promises that know the tables; _law_heard(lambda: ..) by data -/
namespace Sh
open PySem PySem.Spec
      PyProof.Rows L2
open LamX (LamS lamEnv lamCx TabB Tabs)
/-- with the feed, whose tables are told -/
def spFT (T : List (Addr × Str)) (R : List PyData → (PyData → Prop) → Prop) : Sp := fun vs H Q _ => ∃ (fa : FA) (O : List Addr) (ws : List V) (args : List PyData) (P : PyData → Prop), fa.T = T ∧ vs = .ref fa.ad :: ws ∧ fa.In O ∧ (∀ a ∈ O, H a ≠ none) ∧ Feed fa O H ∧ RpAll (hide O H) ws args ∧ R args P ∧
  ∀ v d H', SameF fa H H' → Feed fa O H' → Rp (hide O H') v d → P d → Q v H'
/-- without an argument for it -/
def spF0 (T : List (Addr × Str)) (R : List PyData → (PyData → Prop) → Prop) : Sp := fun vs H Q _ => ∃ (fa : FA) (O : List Addr) (args : List PyData) (P : PyData → Prop), fa.T = T ∧ fa.In O ∧ (∀ a ∈ O, H a ≠ none) ∧ Feed fa O H ∧ RpAll (hide O H) vs args ∧ R args P ∧
  ∀ v d H', SameF fa H H' → Feed fa O H' → Rp (hide O H') v d → P d → Q v H'
section
variable {S : SC} {ds : List Slot} {a b c e : Expr} {es ifs rest : List Expr} {x y z d : PyData} {xs ys : List PyData} {pos p p1 : Pos} {i j : Nat} {t : Str} {P : PyData → Prop}
theorem jf_callGT {x : Str} {n : Nat} {T : List (Addr × Str)} {R : List PyData → (PyData → Prop) → Prop} (C : CalG S.prog S.w S.K S.mg S.base x n (spFT T R)) (hG : S.g = true) (hT : S.fa.T = T) (hn : n ≤ S.k) (hi : ds[i]? = some .fd) (ha : JA S ds es xs) (hR : R xs P)
    (hN : S.N[i]? = some t := by rfl) (hvv : Vis S.scope t := by first | exact Or.inl rfl | exact Or.inr (Or.inl rfl) | exact Or.inr (Or.inr rfl)) (h1 : (t == ("__debug__" : Str)) = false := by decide) (h2 : (t == ("__classdict__" : Str)) = false := by decide)
    (hg : S.scope.names.lookup x = some .globalImplicit := by rfl) (hdb : (x == ("__debug__" : Str)) = false := by decide)
    (hpl : ∀ env, (backTo pos (starEach es env)).any (·.1) = false := by intro _; rfl) : JF S ds (.Call (.Name x p) (.Name t p1 :: es) [] pos) P := by
  intro O σ H st hf f Q k
  have hv : σ[i]? = some (some (.ref S.fa.ad)) := by
    obtain ⟨y, q1, q2⟩ := st.sl i _ hi
    rw [q1, show y = some (.ref S.fa.ad) from q2]
  refine te_mk (fun X h => pe_calG h hG C hn hg (pa_cons (pe_var (i := i) (h.N ▸ hN) (h.scope ▸ hvv) h1 h2) (pa_taOf h) (by rfl)) hdb (by intro _; rfl) hpl) ⟨_, hv, ha O σ H st _ fun vs H1 e1 r1 => ?_⟩
  exact ⟨S.fa, O, vs, xs, P, hT, by rw [List.append_nil], hf, (st.mono e1).dom, f.mono e1, r1, hR, fun v d H2 e2 f2 r2 hp => k v d H2 ((SameF.of e1).trans e2) f2 r2 hp⟩
theorem jf_call0 {x : Str} {n : Nat} {T : List (Addr × Str)} {R : List PyData → (PyData → Prop) → Prop} (C : CalG S.prog S.w S.K S.mg S.base x n (spF0 T R)) (hG : S.g = true) (hT : S.fa.T = T) (hn : n ≤ S.k) (ha : JA S ds (e :: es) xs) (hR : R xs P)
    (hg : S.scope.names.lookup x = some .globalImplicit := by rfl) (hdb : (x == ("__debug__" : Str)) = false := by decide) (he : ∀ env, starEach (e :: es) env = (false, eval e env) :: starEach es env := by intro _; rfl)
    (hpl : ∀ env, (backTo pos (starEach es env)).any (·.1) = false := by intro _; rfl) : JF S ds (.Call (.Name x p) (e :: es) [] pos) P := by
  intro O σ H st hf f Q k
  refine te_mk (fun X h => pe_calG h hG C hn hg (pa_taOf h) hdb he hpl) (ha O σ H st _ fun vs H1 e1 r1 => ?_)
  exact ⟨S.fa, O, xs, P, hT, hf, (st.mono e1).dom, f.mono e1, by rw [List.append_nil]; exact r1, hR, fun v d H2 e2 f2 r2 hp => k v d H2 ((SameF.of e1).trans e2) f2 r2 hp⟩
end
section
variable {P : Program} {w : World} {K : PySem.W.Frag} {mg : Str → Option Value} {base : Heap} {x : Str} {st : Stmt} {f : Addr} {fd : FuncData} {N ps : List Str} {k : Nat}
theorem offSame {fa : FA} {H : Hp} : Same (offF fa H) H := fun a o h => by
  unfold offF at h
  split at h
  · cases h
  · exact h
theorem offBack {fa : FA} {H H' : Hp} (e : Same (offF fa H) H') : SameF fa H H' := fun a o n h => e a o (by unfold offF; rw [if_neg n]; exact h)
theorem fn_feedGT {T : List (Addr × Str)} {R : List PyData → (PyData → Prop) → Prop} (F : FnP K x st f fd) (Sc : FnScope N ps (defScope st)) (hlen : ∀ args Pd, R args Pd → args.length + 1 = ps.length)
    (body : ∀ args Pd, R args Pd → ∀ fa, fa.T = T → JS (scD P w K mg base N st k true fa) true (defBody st) (slots N.length (.fd :: args.map .val)) { nx := fun _ => Pd .none, rt := Pd }) :
    FnG P w K mg base (k + 1) f fd ps (spFT T R) := by
  refine FnG.of F Sc (fun vs H Q E h => ?_) fun cdv A outer s H vs Q E hg hr h => ?_
  · obtain ⟨fa, O, ws, args, Pd, _, rfl, _, _, _, r, hR, _⟩ := h
    rw [List.length_cons, r.len]
    exact hlen _ _ hR
  · obtain ⟨fa, O, ws, args, Pd, hT, rfl, hfO, dom, fe, r, hR, kq⟩ := h
    refine ⟨tsOf (scD P w K mg base N st k true fa) (defBody st), PSs.nox (pss_tsOf (holds_defG Sc hg hr)), ?_⟩
    have hla : args.length + 1 = ps.length := hlen _ _ hR
    have noOwn : ∀ (i : Nat) (xs : List PyData), (Slot.fd :: args.map Slot.val)[i]? ≠ some (Slot.own xs) := fun i xs q => by
      match i, q with
      | i + 1, q => exact noOwnV q
    have sit : Sit true fa O (offF fa H) O H (L2.start N (.ref fa.ad :: ws)) (slots N.length (.fd :: args.map .val)) := by
      refine ⟨fun _ h => h, offSame, fun i xs l q => (slots_get q).elim (fun z => absurd z (noOwn i xs)) (fun z => by cases z), fun l h1 h2 => absurd h1 h2, st_start dom (by rw [List.length_cons, List.length_cons, List.length_map, r.len]) (by rw [List.length_cons, r.len, hla]; exact (sc_le Sc)) (fun i s q => ?_) noOwn, fun _ => ⟨hfO, fe, fun a ha => if_pos ha⟩⟩
      match i, q with
      | 0, q => cases q; rfl
      | i + 1, q => exact okV r q
    exact body args Pd hR fa hT O (offF fa H) O H _ sit _ ⟨fun O' H' σ' ds' q hd => kq _ _ _ (offBack q.ext) ((q.fd rfl).2.1.sub q.sub) .non hd, fun v d' H' e f' r' hd => kq _ _ _ (offBack e) (f' rfl) r' hd, fun _ _ _ _ _ h => h.elim, fun _ _ _ _ _ h => h.elim, fun _ _ _ _ _ _ _ _ _ _ _ h => h.elim⟩
/-- the def whose code object is told -/
abbrev scE (P : Program) (w : World) (K : PySem.W.Frag) (mg : Str → Option Value) (base : Heap) (N : List Str) (st : Stmt) (k : Nat) (fa : FA) (c : Value) (q : Str) : SC := ⟨P, w, K, mg, base, N, defScope st, fun _ => true, k, true, fa, fun _ _ _ _ => False, some (c, q)⟩
theorem fn_feed0G {T : List (Addr × Str)} {R : List PyData → (PyData → Prop) → Prop} (F : FnP K x st f fd) (Sc : FnScope N ps (defScope st)) (hlen : ∀ args Pd, R args Pd → args.length = ps.length)
    (body : ∀ args Pd, R args Pd → ∀ fa, fa.T = T → JS (scE P w K mg base N st k fa fd.code (x ++ ".<locals>.")) true (defBody st) (slots N.length (args.map .val)) { nx := fun _ => Pd .none, rt := Pd }) :
    FnG P w K mg base (k + 1) f fd ps (spF0 T R) := by
  refine FnG.ofC F Sc (fun vs H Q E h => ?_) fun A outer s H vs Q E hg hr h => ?_
  · obtain ⟨fa, O, args, Pd, _, _, _, _, r, hR, _⟩ := h
    rw [r.len]
    exact hlen _ _ hR
  · obtain ⟨fa, O, args, Pd, hT, hfO, dom, fe, r, hR, kq⟩ := h
    have hH : (scE P w K mg base N st k fa fd.code (x ++ ".<locals>.")).Holds (cxOf CX0 P w K mg base N x (defScope st) f fd.code A outer s H E).nox :=
      ⟨rfl, rfl, rfl, rfl, rfl, rfl, Sc.nd, rfl, rfl, rfl, hr, (fun _ => hg), takesNo, PassesOwn.never, fun q h => by cases h; exact ⟨rfl, rfl⟩⟩
    refine ⟨tsOf (scE P w K mg base N st k fa fd.code (x ++ ".<locals>.")) (defBody st), PSs.nox (pss_tsOf hH), ?_⟩
    have hla : args.length = ps.length := hlen _ _ hR
    have sit : Sit true fa O (offF fa H) O H (L2.start N vs) (slots N.length (args.map .val)) :=
      ⟨fun _ h => h, offSame, fun i xs l q => (slots_get q).elim (fun z => absurd z noOwnV) (fun z => by cases z), fun l h1 h2 => absurd h1 h2, st_start dom (by rw [List.length_map, r.len]) (by rw [r.len, hla]; exact (sc_le Sc)) (fun i s q => okV r q) (fun i xs => noOwnV), fun _ => ⟨hfO, fe, fun a ha => if_pos ha⟩⟩
    exact body args Pd hR fa hT O (offF fa H) O H _ sit _ ⟨fun O' H' σ' ds' q hd => kq _ _ _ (offBack q.ext) ((q.fd rfl).2.1.sub q.sub) .non hd, fun v d' H' e f' r' hd => kq _ _ _ (offBack e) (f' rfl) r' hd, fun _ _ _ _ _ h => h.elim, fun _ _ _ _ _ h => h.elim, fun _ _ _ _ _ _ _ _ _ _ _ h => h.elim⟩
end
/-! ### in the lambda's body -/
/-- the lambda's body within the def that S tells -/
abbrev lamS (S : SC) (scope : Scope) (k : Nat) (E : XK) : SC := { S with scope := scope, fn := fun _ => false, k := k, g := false, W := fun c d _ H => E c d H, ev := none }
theorem holds_lam {S : SC} {X : Cx} {scope : Scope} {k : Nat} {A : Around} {outer : List Env} {s : Shared} {H : Hp} {E : XK} {f c' : Addr} (h : S.Holds X) (hr : Room k (A.deeper (lamEnv X scope s.heap.objs.size f c'))) : (lamS S scope k E).Holds (lamCx X A outer s H E scope f c') :=
  ⟨h.prog, h.w, h.K, h.mg, h.base, h.N, h.nd, rfl, rfl, rfl, hr, (fun q => by cases q), takes_of rfl rfl rfl rfl, passes_of (K := fun e s'' => L2.CX X.prog X.w outer H s E e s'') rfl, fun q h => by cases h⟩
/-- e gives a value as Pv tells, or lets out an exception as Px tells -/
def JX (S : SC) (ds : List Slot) (scope : Scope) (k : Nat) (e : Expr) (Pv : PyData → Prop) (Px : Value → Str → PyData → Prop) : Prop :=
  ∀ (O : List Addr) (σ : L2.St) (H : Hp) (E : XK), StOk S.fa O H σ ds → ∀ Q : VK, (∀ v d H', Same H H' → Rp (hide O H') v d → Pv d → Q v H') → (∀ c f v d dx H', Same H H' → Rp (hide O H') v d → H' dx = some (.xd [(f, v)]) → Px c f d → E c (some dx) H') → teOf (lamS S scope k E) e σ H Q
section
variable {S : SC} {ds : List Slot} {e : Expr} {es : List Expr} {xs : List PyData} {pos p lpos : Pos} {x : Str} {n k : Nat} {R : List PyData → (PyData → Prop) → (Value → Str → PyData → Prop) → Prop} {Pv : PyData → Prop} {Px : Value → Str → PyData → Prop} {scope : Scope}
/-- a def that may let exceptions out, called -/
def CalX (P : Program) (w : World) (K : PySem.W.Frag) (mg : Str → Option Value) (base : Heap) (x : Str) (k : Nat) (sp : Sp) : Prop :=
  ∃ (f : Addr) (fd : FuncData) (ps : List Str), FnOk P w K mg base (L2.CX P w) k f fd ps sp ∧ mg x = some (.ref f) ∧ PySem.W.keepIn K (.ref f) = true ∧ Binds K fd ps []
theorem jx_call (C : CalX S.prog S.w S.K S.mg S.base x n (spX R)) (hn : n ≤ k) (ha : ∀ E, JA (lamS S scope k E) ds (e :: es) xs) (hR : R xs Pv Px)
    (hg : scope.names.lookup x = some .globalImplicit := by rfl) (hdb : (x == ("__debug__" : Str)) = false := by decide)
    (he : ∀ env, starEach (e :: es) env = (false, eval e env) :: starEach es env := by intro _; rfl) (hpl : ∀ env, (backTo pos (starEach es env)).any (·.1) = false := by intro _; rfl) : JX S ds scope k (.Call (.Name x p) (e :: es) [] pos) Pv Px := by
  intro O σ H E st Q kv kx
  refine te_mk (t := tCall (spX R) [] E (taOf (lamS S scope k E) (e :: es))) (fun X h => ?_) ?_
  · obtain ⟨f, fd, ps, F, hm, hk, hb⟩ := C
    have F' : FnOk X.prog X.w X.K X.mg X.base (L2.CX X.prog X.w) n f fd ps (spX R) := by rw [h.prog, h.w, h.K, h.mg, h.base]; exact F
    exact pe_call F' (h.room.mono hn) (gl_of h hg) (h.mg ▸ hm) (h.K ▸ hk) (h.K ▸ hb) .nil (passes_call h.tk fun _ _ _ _ z => z) (pa_taOf h) hdb (he _) (hpl _)
  · refine ha E O σ H st _ fun vs H1 e1 r1 => ?_
    exact ⟨O, xs, Pv, Px, dom_mono st.dom e1, by rw [List.append_nil]; exact r1, hR, fun v d H2 e2 r2 hp => kv v d H2 (e1.trans e2) r2 hp, fun c f v d dx H2 e2 r2 h2 hp => kx c f v d dx H2 (e1.trans e2) r2 h2 hp⟩
theorem jx_kw {ks : List Str} {rr : {α : Type} → List α → List α} {kws : List Keyword} (C : CalK S.prog S.w S.K S.mg S.base x n (L2.CX S.prog S.w) (spX R) ks rr) (hrp : ∀ {H : Hp} {zs : List V} {xs : List PyData}, RpAll H zs xs → RpAll H (rr zs) (rr xs)) (hn : n ≤ k) (ha : ∀ E, JK (lamS S scope k E) ds kws xs) (hlen : xs.length = ks.length) (hR : R (rr xs) Pv Px)
    (hg : scope.names.lookup x = some .globalImplicit := by rfl) (hdb : (x == ("__debug__" : Str)) = false := by decide)
    (hall : ∀ env, (backToKw pos (keywordEach kws env)).all (·.1.isSome) = true := by intro _; rfl) (hks : ∀ env, (backToKw pos (keywordEach kws env)).filterMap (·.1) = ks := by intro _; rfl)
    (hpl : ∀ env, ((backTo pos (starEach [] env)).any (·.1) || (backToKw pos (keywordEach kws env)).any (·.1.isNone)) = false := by intro _; rfl) : JX S ds scope k (.Call (.Name x p) [] kws pos) Pv Px := by
  intro O σ H E st Q kv kx
  refine te_mk (t := tCallN 0 ks.length (spX R) (fun _ zs => rr zs) E tNil (tkOf (lamS S scope k E) kws)) (fun X h => ?_) ?_
  · have hp : Passes (L2.CX S.prog S.w) X E := by
      rw [← show X.prog = S.prog from h.prog, ← show X.w = S.w from h.w]
      exact passes_call h.tk fun _ _ _ _ z => z
    exact pe_kw h C hp hn hg (pk_tkOf h) (hall _) (hks _) hdb (hpl _)
  · refine ha E O σ H st _ fun vs H1 e1 r1 => ⟨rfl, by rw [r1.len, hlen], ?_⟩
    exact ⟨O, rr xs, Pv, Px, dom_mono st.dom e1, hrp r1, hR, fun v d H2 e2 r2 hp => kv v d H2 (e1.trans e2) r2 hp, fun c f v d dx H2 e2 r2 h2 hp => kx c f v d dx H2 (e1.trans e2) r2 h2 hp⟩
theorem heard_sc : FnScope Nh ["_law_call"] (defScope s_L_heard) := ⟨rfl, rfl, rfl, by decide +kernel, rfl, by decide +kernel, by decide +kernel⟩
/-- _law_heard(lambda: body) -/
theorem jf_heard {c Pt CR CI CP CS CN CL CB CT : Addr} {q0 : Str} {P : PyData → Prop} {params : Arguments} {body : Expr} (hev : S.ev = some (.ref c, q0)) (hT : S.fa.T = [(Pt, q0 ++ "<lambda>")]) (TB : TabB S.base S.mg c Pt) (A : HK S.K S.mg CR CI CP CS CN CL CB CT)
    (hF : ∃ g fd, FnP S.K "_law_heard" s_L_heard g fd ∧ S.mg "_law_heard" = some (.ref g)) (hk : k + 2 ≤ S.k) (L : LamS S.scope scope) (hb : JX S ds scope k body Pv Px)
    (hPx : ∀ c f d, Px c f d → (c = .ref CL ∧ f = "within" ∧ P (.tuple [.str "lost", d])) ∨ (c = .ref CT ∧ f = "ways" ∧ P (.tuple [.str "torn", d]))) (hPv : ∀ d, Pv d → P (.tuple [.str "told", d]))
    (hdef : ∀ env, defaultsOf params env = ([], []) := by intro _; rfl) (hbind : ∀ (q : Str) (cl : List (Str × Addr)) (pm cv ctv : Value), bindArgs (PySem.W.kla_fn "<lambda>" q params body scope cl pm cv ctv) ⟨[], []⟩ = pure [] := by intro _ _ _ _ _; rfl)
    (hg : S.scope.names.lookup ("_law_heard" : Str) = some .globalImplicit := by rfl) : JF S ds (.Call (.Name "_law_heard" p) [.Lambda params body scope lpos] [] pos) P := by
  intro O σ H st hf f Q kq
  obtain ⟨g, fd, F, hm⟩ := hF
  refine te_mk (t := tLamP S.fa.T Pt (TTh CL CT) fun E => teOf (lamS S scope k E) body) (fun X h => ?_) ⟨f.2, fun H1 eP T1 => ?_⟩
  · obtain ⟨oc, od, dV, kV, doc, pm, an, cdv, ct, osl, rfl, lk, hcd, hD, _⟩ := F.ex
    obtain ⟨hcode, hq⟩ := h.ev _ hev
    have hb' : Binds X.K _ ["_law_call"] [] := h.K ▸ F.bindsN (ps := ["_law_call"]) fun kV doc pm an cdv ct us hl => by
      match us, hl with
      | [u], _ => rfl
    have HA : HK X.K X.mg CR CI CP CS CN CL CB CT := by rw [h.K, h.mg]; exact A
    have eq : lamQ X = q0 ++ "<lambda>" := by show X.env.qual ++ "<lambda>" = _; rw [hq]
    exact pe_lamcallP (gl_of h hg) (h.mg ▸ hm) (h.K ▸ F.kp) (by rw [h.K]; exact lk) (by rw [h.K]; exact hcd) hb' heard_sc rfl (.inl rfl) (heard_gives HA) (by rw [h.base, h.mg]; exact TB) hcode (by rw [eq, hT]; exact List.mem_singleton.mpr rfl) (fun z hz e => by
      rw [hT] at hz; rw [List.mem_singleton.mp hz, eq]) (h.room.mono hk) (by rw [h.scope]; exact L) (hdef _) hbind (fun A outer s H E f c' hr => pe_teOf (holds_lam h hr))
  · have pin : Pt ∈ S.fa.all := by unfold FA.all; rw [hT]; simp
    have eF : SameF S.fa H H1 := fun b o n z => eP b o (fun w => n (w ▸ pin)) z
    have f1 : Feed S.fa O H1 := by
      obtain ⟨⟨cc, cells, n, l, t, h1, h2, h3, h4, h5⟩, h6⟩ := f
      have np : ∀ b o, (∀ ps, o ≠ HO.tbl ps) → H b = some o → H1 b = some o := fun b o no z => by
        refine eP b o (fun w => ?_) z
        obtain ⟨ps, q1, _⟩ := h6 (Pt, q0 ++ "<lambda>") (by rw [hT]; exact List.mem_singleton.mpr rfl)
        rw [w, show H Pt = _ from q1] at z
        exact no ps (Option.some.inj z).symm
      obtain ⟨n1, n2⟩ := hide_some h4
      exact ⟨⟨cc, cells, n, l, t, np _ _ (fun ps z => by cases z) h1, h2, h3, by rw [hide_out n1]; exact np _ _ (fun ps z => by cases z) n2, h5⟩, T1⟩
    have st1 := st.monoF hf f eF f1
    refine hb O σ H1 _ st1 _ (fun v d H2 e2 r2 hp => ⟨by show 2 ≤ sizeLine; rw [sizeLine_eq]; omega, fun q hq => ?_⟩) (fun cc ff v d dx H2 e2 r2 h2 hp => ?_)
    · exact kq _ _ _ (eF.trans (.of (e2.trans (Same.upd_new hq)))) (f1.mono (e2.trans (Same.upd_new hq))) (new_rpT (st1.mono e2).dom hq (.cons (.str _) (.cons r2 .nil))) (hPv d hp)
    · rcases hPx cc ff d hp with ⟨rfl, rfl, hP⟩ | ⟨rfl, rfl, hP⟩
      · exact ⟨CL, dx, v, rfl, rfl, .inl ⟨rfl, h2, fun q hq => kq _ _ _ (eF.trans (.of (e2.trans (Same.upd_new hq)))) (f1.mono (e2.trans (Same.upd_new hq))) (new_rpT (st1.mono e2).dom hq (.cons (.str _) (.cons r2 .nil))) hP⟩⟩
      · exact ⟨CT, dx, v, rfl, rfl, .inr ⟨rfl, h2, fun q hq => kq _ _ _ (eF.trans (.of (e2.trans (Same.upd_new hq)))) (f1.mono (e2.trans (Same.upd_new hq))) (new_rpT (st1.mono e2).dom hq (.cons (.str _) (.cons r2 .nil))) hP⟩⟩
end
end Sh


set_option Elab.async false
set_option linter.all false
set_option maxRecDepth 100000
set_option maxHeartbeats 40000000
set_option autoImplicit false
/-! Z1: the end, for a law whose promise asks that no repr is under way -/
namespace Sh
open PySem PySem.Spec
      PyProof.Rows L2
open LamX (TabB)
theorem law_callG {P : Program} {w : World} {K : PySem.W.Frag} {mg mb : Str → Option Value} {k : Nat} {fa a : Addr} {cs : List (Addr × Addr)} {fd : FuncData} {x : Str} {sp : Sp} {s₁ : Shared} {vs : List Value} {ns : List Int}
    (partIn : K.In s₁.heap) (nsG : s₁.heap.Ns mainGlobals mg) (hb : s₁.heap.Ns builtinsNs mb) (bootB : ∀ x : Str, x ≠ "__name__" → mb x = bootBuiltins x) (noLim : s₁.heap.NoLimit) (hg : s₁.gens = #[])
    (tabAt : ∀ p ∈ cs, s₁.heap.get? p.2 = some { cls := .none, data := .fields #[] }) (tabOut : ∀ p ∈ cs, K.lookup p.2 = none) (C : ∀ p ∈ cs, PySem.W.CodeHd s₁.heap p.1 p.2)
    (bMod : ∃ (bm : Addr) (ob : Obj), mg "__builtins__" = some (.ref bm) ∧ bm ≠ builtinsNs ∧ s₁.heap.get? bm = some ob ∧ ob.cls = .type "module" ∧ ob.dict = some builtinsNs ∧ ob.data = .plain)
    (ha : s₁.heap.get? a = some { cls := .type "list", data := .seq vs.toArray
          }) (hi : IntsAre vs ns) (hl : ns.length ≤ sizeLine) (hr : Room k callerA)
    (F : ∀ base : Heap, K.In base → base.Ns mainGlobals mg → (∀ p ∈ cs, TabB base mg p.1 p.2) → FnG P w K mg base k fa fd [x] sp) (hbind : ∀ (s : Shared) (u : Value), BindsTo s fd ⟨[u], []⟩ [(x, u)])
    (hsp : ∀ H : Hp, (∀ p ∈ cs, H p.2 = some (.tbl #[])) → SqL K H a (ns.map V.int) → sp [.ref a] H (fun v _ => v = .bl true) fun _ _ _ => False) :
    codeAny (model P w) callerA (.call (.ref fa) ⟨[.ref a], []⟩) (fun r s' => r = .ok
          (.ret (.bool true)) ∧ OldK s₁.heap s'.heap ∧ s'.os = s₁.os ∧ AllBare s'.gens) s₁ := by
  have valsV := vals_ints hi
  have lenVs := hi.length
  have tabObj : ∀ b : Addr, b ∈ cs.map (·.2) → s₁.heap.get? b = some { cls := .none, data := .fields #[] } := fun b hb => by
    obtain ⟨p, hp, e⟩ :=
          List.mem_map.mp hb
    rw [← e]
    exact tabAt p hp
  have notTab : a ∉ cs.map (·.2) := fun z => by
    have q := tabObj a z
    rw [ha] at q
    have z' : Data.seq vs.toArray _ = Data.fields
          #[] := congrArg Obj.data (Option.some.inj q)
    cases z'
  have inTab : ∀ p ∈ cs, p.2 ∈ cs.map (·.2) := fun p hp => List.mem_map.mpr ⟨p, hp, rfl⟩
  -- (the same for this promise)
  have whole : ∀ H : Hp, (∀ p ∈ cs, H p.2 = some (.tbl #[])) → (∀ b, H b = none ∨ b ∈ cs.map (·.2) ∨ ∃ o xs, H b = some (.frz o (.lst xs))) → SqL K H a (ns.map V.int) → HOk P w H s₁.heap → (∀ b, H b ≠ none → b = a ∨ b ∈ cs.map (·.2)) → (H a ≠ none → K.lookup a = none) →
      codeAny (model P w) callerA (.call (.ref fa) ⟨[.ref a], []⟩) (fun r s' => r = .ok
            (.ret (.bool true)) ∧ OldK s₁.heap s'.heap ∧ s'.os = s₁.os ∧ AllBare s'.gens) s₁ := by
    intro H tabH onlyT scr heapOk tracked outK
    have hidAt : ∀ {b : Addr} {o : Obj}, s₁.heap.get? b = some o → H b = none → (hidT s₁.heap H).get? b = some o := fun e n => hidT_get e n
    have goneP : ∀ {b : Addr} {o : Obj}, s₁.heap.get? b = some o → (∀ vs n, o.data ≠ .seq vs n) → o.data ≠ .fields #[] → H b = none := fun {b o} e h1 h2 => by
      cases q : H b with
      | none => rfl
      | some u =>
        rcases tracked b (by rw [q]; simp) with e' | e'
        · rw [e', ha] at e
          cases e
          exact (h1 _ _ rfl).elim
        · rw [tabObj b e'] at e
          cases e
          exact (h2 rfl).elim
    have goneD : ∀ {b : Addr} {o : Obj} {es : Array DictEntry} {ep : Nat}, s₁.heap.get? b = some o → o.data = .dict es ep → H b = none := fun {b o es ep} e d => by
      refine goneP e (fun vs n z => ?_) fun z => ?_
      · rw [d] at z
        cases z
      · rw [d] at z
        cases z
    have nsHid : ∀ {b : Addr} {m : Str → Option Value}, s₁.heap.Ns b m → (hidT s₁.heap H).Ns b m := fun {b m} ⟨o, es, ep, e, d, r⟩ => ⟨o, es, ep, hidAt e (goneD e d), d, r⟩
    have partHid : K.In (hidT s₁.heap H) := fun b o e => hidAt (partIn b o e) (by
      cases q : H b with
      | none => rfl
      | some u =>
        rcases tracked b (by rw [q]; simp) with e' | e'
        · rw [e'] at e q
          rw [outK (by rw [q]; simp)] at e
          cases e
        · obtain ⟨p, hp, ep⟩
                := List.mem_map.mp e'
          rw [← ep, tabOut p hp] at e
          cases e)
    have modHid : L2.Mod K mg (hidT s₁.heap H) := ⟨partHid, nsHid nsG, ⟨mb, nsHid hb, bootB⟩, let ⟨mc, h1, h2⟩ := noLim; ⟨mc, nsHid h1, h2⟩⟩
    have TB : ∀ p ∈ cs, TabB (hidT s₁.heap
          H) mg p.1 p.2 := fun p hp => by
      have hTp := tabAt p hp
      refine ⟨?_, ?_, fun z => ?_⟩
      · obtain ⟨o, us, file, tf, flags, tg, inF, text, tt,
              e1, r1, r2, r3, r4, r5, r6, r7, r8, hne⟩ := C p hp
        refine ⟨o, us, file, tf, flags, tg, inF, text, tt, hidAt e1 (goneP e1 (fun vs n z => ?_) fun z => ?_), r1, r2, r3, r4, r5, r6, r7, r8, hne⟩
        · rw [r2] at z
          cases z
        · rw [r2] at z
          cases z
          simp at r3
      · obtain ⟨bm, ob, b1, b2, b3, b4, b5, b6⟩ := bMod
        have notG : bm ≠ mainGlobals := fun q => by
          obtain ⟨o, es, ep, e, hd, _⟩ := nsG
          rw [q, e] at b3
          cases b3
          rw [hd] at b6
          cases b6
        have notP : bm ≠ p.2 := fun q => by
          rw [q, hTp] at b3
          cases b3
          cases b6
        refine ⟨bm, ob, b1, b2, notG, notP, hidAt b3 (goneP b3 (fun vs n z => ?_) fun z => ?_), b4, b5, b6⟩
        · rw [b6] at z
          cases z
        · rw [b6] at z
          cases z
      · obtain ⟨o, es, ep, e, hd, _⟩ := nsG
        rw [z, hTp] at e
        cases e
        cases hd
    have envAt : Env0 P w K mg (hidT s₁.heap H) callerA [] s₁ H := ⟨rfl, modHid, fun b o e => of_hidT e, Nat.le_of_eq (hidT_size _ _), trivial, fun b hb => absurd (show b ∈ ([] : List Addr) from hb) (by simp), heapOk, .of_eq hg⟩
    refine codeAny_mono ((F _ partHid (nsHid nsG) TB).go callerA [] s₁ H ⟨[.ref a], []⟩ [.ref a] [.ref a] _ (fun _ _ _ => False) rfl hr envAt (hbind s₁ (.ref a)) (.cons rfl .nil) (hsp H tabH scr)) fun r s' h => ?_
    cases r with
    | error e => exact False.elim h
    | ok fl =>
      cases fl with
      | next => exact False.elim h
      | brk => exact False.elim h
      | cont => exact False.elim h
      | ret u =>
        obtain ⟨v, H', os, noGens, rest, heapOk', r', q⟩ := h
        have q' : v = .bl true := q
        subst q'
        obtain rfl : u =
              Value.bool true := r'
        have stays : ∀ b o, b ∉ cs.map (·.2) → s₁.heap.get? b = some o → s'.heap.get? b = some o := fun b o nb e => by
          cases q : H b with
          | none => exact rest.keep b o e q (by intro z; exact absurd (show b ∈ ([] : List Addr) from z) (by simp)) (by simp)
          | some u =>
            rcases onlyT b with z | z | ⟨ob, xs, z⟩
            · rw [q] at z; cases z
            · exact absurd z nb
            · have z2 := rest.frzs b ob _ z
              obtain ⟨e1, _⟩ := heapOk b _ z
              obtain ⟨e2, _⟩ := heapOk' b _ z2
              rw [e] at e1; cases e1
              exact e2
        have moreOf : ∀ p ∈ cs, ∃ more : Array Value, s'.heap.get? p.2 = some { cls := .none, data := .fields more } := fun p hp => by
          obtain ⟨more, z⟩ := rest.tbls p.2 #[] (tabH p hp)
          exact ⟨_, heapOk' p.2 _ z⟩
        refine ⟨rfl, ⟨fun b o e => ?_, fun b o e => ?_⟩, os, noGens⟩
        · by_cases hb :
                b ∈ cs.map (·.2)
          · obtain ⟨p, hp, ep⟩
                  := List.mem_map.mp hb
            obtain ⟨more, hm⟩ := moreOf p hp
            rw [← ep] at e ⊢
            rw [tabAt p hp] at e
            cases e
            exact .inr (.inl ⟨((C p hp).tab (tabAt p hp)).isCodeTable, rfl, #[], more, rfl, by rw [Array.empty_append]; exact hm⟩)
          · exact .inl (stays b o hb e)
        · by_cases hb :
                b ∈ cs.map (·.2)
          · obtain ⟨p, hp, ep⟩
                  := List.mem_map.mp hb
            obtain ⟨more, hm⟩ := moreOf p hp
            rw [← ep]
            exact ⟨_, hm⟩
          · exact ⟨o, stays b o hb e⟩
  cases hk : K.lookup a with
  | some o =>
    have e := partIn a o hk
    rw [ha] at e
    cases e
    refine whole (fun b => if b ∈ cs.map (·.2) then some (.tbl #[]) else none) (fun p hp => if_pos (inTab p hp)) (fun b => ?_) (.inr ⟨_, vs.toArray, _, hk, rfl, rfl, rfl, by rw [List.size_toArray, lenVs]; exact hl, by simpa using valsV⟩) (fun b u z => ?_) (fun b z => ?_) fun z => absurd (show (if a ∈ cs.map (·.2) then some (HO.tbl #[]) else none) = none from if_neg notTab) z
    · by_cases hb :
            b ∈ cs.map (·.2)
      · exact .inr (.inl hb)
      · exact .inl (if_neg hb)
    · by_cases hb :
            b ∈ cs.map (·.2)
      · have z' := (if_pos
              hb).symm.trans z
        cases z'
        exact tabObj b hb
      · have z' := (if_neg
              hb).symm.trans z
        cases z'
    · by_cases hb :
            b ∈ cs.map (·.2)
      · exact .inr hb
      · exact absurd (if_neg hb) z
  | none =>
    refine whole (fun b => if b = a then some (.frz { cls := .type "list", data := .seq vs.toArray } (.lst (ns.map V.int))) else if b ∈ cs.map (·.2) then some (.tbl #[]) else none) (fun p hp => (if_neg (show ¬ p.2 = a from fun z => notTab (by rw [← z]; exact inTab p hp))).trans (if_pos (inTab p hp))) (fun b => ?_)
      (.inl (.inr ⟨{ cls := .type "list", data := .seq vs.toArray },
            if_pos rfl⟩)) (fun b u z => ?_) (fun b z => ?_) fun _ => hk
    · by_cases hb : b = a
      · exact .inr (.inr
              ⟨_, _, if_pos hb⟩)
      · by_cases hb2 :
              b ∈ cs.map (·.2)
        · exact .inr (.inl hb2)
        · exact .inl ((if_neg
                hb).trans (if_neg hb2))
    · by_cases hb : b = a
      · have z' := (if_pos
              hb).symm.trans z
        cases z'
        rw [hb]
        exact ⟨ha, by rw [List.length_map]; exact hl, vs, _, valsV, ha⟩
      · have z1 := (if_neg
              hb).symm.trans z
        by_cases hb2 :
              b ∈ cs.map (·.2)
        · have z' := (if_pos
                hb2).symm.trans z1
          cases z'
          exact tabObj b hb2
        · have z' := (if_neg
                hb2).symm.trans z1
          cases z'
    · by_cases hb : b = a
      · exact .inl hb
      · by_cases hb2 :
              b ∈ cs.map (·.2)
        · exact .inr hb2
        · exact absurd ((if_neg
                hb).trans (if_neg hb2)) z
/-- here: what is known of the law's promise at the head's heap h -/
def LawAtG (l : PySem.W.OpenLaw) (w : World) (K : PySem.W.Frag) (k n : Nat) (x : Str) (mg : Str → Option Value) (fa : Addr) (h : Heap) : Prop :=
  ∃ (fd : FuncData) (cs : List (Addr × Addr)) (sp : Sp), (∀ p ∈ cs, h.get? p.2 = some { cls := .none, data := .fields #[] }) ∧ (∀ p ∈ cs, K.lookup p.2 = none) ∧ (∀ p ∈ cs, PySem.W.CodeHd h p.1 p.2) ∧
    (∀ (s : Shared) (u : Value), BindsTo s fd ⟨[u], []⟩ [(x, u)]) ∧
    (∀ (H : Hp) (a : Addr) (ns : List Int), ns.length ≤ n → (∀ p ∈ cs, H p.2 = some (.tbl #[])) → SqL K H a (ns.map V.int) → sp [.ref a] H (fun v _ => v = .bl true) fun _ _ _ => False) ∧
    ∀ base : Heap, K.In base → base.Ns mainGlobals mg → (∀ p ∈ cs, TabB base mg p.1 p.2) → FnG l.prog w K mg base k fa fd [x] sp
theorem walk_ofG {l : PySem.W.OpenLaw} {n k : Nat} {q : Program} {loose : List Str} {XP : (Str → Option Value) → Heap → Prop} {YP : World → Heap → Prop} {d : DefRec} {x : Str} (hn : l.most = some n) (hn2 : n ≤ sizeLine) (hdf : d.params.defaults = []) (hr : Room k callerA)
    (F : ∀ (w : World) (mg : Str → Option Value) (fa : Addr) (h : Heap), YP w h → h.Ns mainGlobals mg → mg d.name = some (.ref fa) → ∃ K : PySem.W.Frag, K.In h ∧ LawAtG l w K k n x mg fa h) : PySem.W.WalkO q loose XP YP l.row.toRowW d [] (fun f vs => PySem.call f vs) := by
  refine Att.attach_callB hn hdf fun w s₀ s₁ mg mb fa o pm cd doc a vs ns G Y ho hd hcd hmg hobj hints hlen _ hg => ?_
  obtain ⟨K, KX, fd, cs, sp, h1, h2, h3, h4, h5, h6⟩ := F w mg fa _ Y G.T.g hmg
  exact law_callG KX G.T.g G.T.b G.T.builtins G.T.nolimit hg h1 h2 h3 G.T.bmain hobj hints (Nat.le_trans hlen hn2) hr h6 h4 fun H hH hS => h5 H a ns hlen hH hS
end Sh


set_option Elab.async false
set_option linter.all false
set_option maxRecDepth 100000
set_option maxHeartbeats 40000000
set_option autoImplicit false
/-! M7: sums; how many are in the air -/
namespace Sh
open PySem L2
def Su : Nat → (Nat → Int) → Int
  | 0, _ => 0
  | n + 1, f => Su n f + f n
section
variable {n m : Nat} {f g : Nat → Int} {c : Int}
theorem Su.congr : ∀ {n : Nat} {f g : Nat → Int}, (∀ i < n, f i = g i) → Su n f = Su n g
  | 0, _, _, _ => rfl
  | n + 1, f, g, h => by
    show Su n f + f n = Su n g + g n
    rw [Su.congr fun i hi => h i (by omega), h n (by omega)]
theorem Su.add : ∀ n : Nat, Su n (fun i => f i + g i) = Su n f + Su n g
  | 0 => rfl
  | n + 1 => by
    show Su n (fun i => f i + g i) + (f n + g n) = Su n f + f n + (Su n g + g n)
    rw [Su.add n]
    omega
theorem Su.sub : ∀ n : Nat, Su n (fun i => f i - g i) = Su n f - Su n g
  | 0 => rfl
  | n + 1 => by
    show Su n (fun i => f i - g i) + (f n - g n) = Su n f + f n - (Su n g + g n)
    rw [Su.sub n]
    omega
theorem Su.mulc (c : Int) (f : Nat → Int) : ∀ n : Nat, Su n (fun i => c * f i) = c * Su n f
  | 0 => (Int.mul_zero c).symm
  | n + 1 => by
    show Su n (fun i => c * f i) + c * f n = c * (Su n f + f n)
    rw [Su.mulc c f n, Int.mul_add]
theorem Su.const (c : Int) : ∀ n : Nat, Su n (fun _ => c) = n * c
  | 0 => (Int.zero_mul c).symm
  | n + 1 => by
    show Su n (fun _ => c) + c = ((n + 1 : Nat) : Int) * c
    rw [Su.const c n, Int.natCast_succ, Int.add_mul, Int.one_mul]
theorem Su.zero (h : ∀ i < n, f i = 0) : Su n f = 0 := by rw [Su.congr h, Su.const, Int.mul_zero]
theorem Su.comm (F : Nat → Nat → Int) (m : Nat) : ∀ n : Nat, Su n (fun i => Su m fun j => F i j) = Su m fun j => Su n fun i => F i j
  | 0 => (Su.zero fun _ _ => rfl).symm
  | n + 1 => by
    show Su n (fun i => Su m fun j => F i j) + Su m (fun j => F n j) = Su m fun j => Su n (fun i => F i j) + F n j
    rw [Su.comm F m n, Su.add]
theorem Su.split (m : Nat) (f : Nat → Int) : ∀ k : Nat, Su (m + k) f = Su m f + Su k fun i => f (m + i)
  | 0 => (Int.add_zero _).symm
  | k + 1 => by
    show Su (m + k) f + f (m + k) = Su m f + (Su k (fun i => f (m + i)) + f (m + k))
    rw [Su.split m f k]
    omega
theorem Su.first (f : Nat → Int) (n : Nat) : Su (n + 1) f = f 0 + Su n fun i => f (i + 1) := by
  rw [Nat.add_comm n 1, Su.split 1 f n]
  show 0 + f 0 + Su n (fun i => f (1 + i)) = _
  rw [Int.zero_add]
  congr 1
  exact Su.congr fun i _ => by rw [Nat.add_comm 1 i]
theorem Su.cyc (h : ∀ i, f (i + n) = f i) : ∀ s : Nat, Su n (fun k => f (s + k)) = Su n f
  | 0 => Su.congr fun i _ => by rw [Nat.zero_add]
  | s + 1 => by
    rw [← Su.cyc h s]
    cases n with
    | zero => rfl
    | succ m =>
      rw [Su.first (fun k => f (s + k)) m]
      show Su m (fun k => f (s + 1 + k)) + f (s + 1 + m) = f (s + 0) + _
      have e := h s
      rw [show s + 1 + m = s + (m + 1) by omega, e, Int.add_comm]
      congr 1
      exact Su.congr fun i _ => by rw [show s + 1 + i = s + (i + 1) by omega]
theorem Su.le : ∀ {n : Nat} {f g : Nat → Int}, (∀ i < n, f i ≤ g i) → Su n f ≤ Su n g
  | 0, _, _, _ => Int.le_refl _
  | n + 1, f, g, h => by
    have := Su.le (n := n) (f := f) (g := g) fun i hi => h i (by omega)
    have := h n (by omega)
    show Su n f + f n ≤ Su n g + g n
    omega
/-- one that stands -/
theorem Su.one {k : Nat} : ∀ {n : Nat}, k < n → Su n (fun i => if i = k then c else 0) = c
  | n + 1, h => by
    show Su n _ + (if n = k then c else 0) = c
    by_cases e : n = k
    · subst e
      rw [if_pos rfl, Su.zero fun i hi => if_neg (by omega), Int.zero_add]
    · rw [if_neg e, Su.one (by omega), Int.add_zero]
theorem Su.cg {p : Int} : ∀ {n : Nat} {f g : Nat → Int}, (∀ i < n, Cg p (f i) (g i)) → Cg p (Su n f) (Su n g)
  | 0, _, _, _ => .refl 0
  | n + 1, f, g, h => (Su.cg fun i hi => h i (by omega)).add (h n (by omega))
theorem filt_len (pr : Nat → Bool) : ∀ n : Nat, ((((List.range n).filter pr).length : Nat) : Int) = Su n fun k => if pr k = true then 1 else 0
  | 0 => rfl
  | n + 1 => by
    rw [List.range_succ, List.filter_append, List.length_append]
    show _ = Su n (fun k => if pr k = true then 1 else 0) + (if pr n = true then 1 else 0)
    rw [← filt_len pr n]
    cases h : pr n <;> simp [List.filter_cons, h]
theorem sum_gI : ∀ ts : List Int, ts.sum = Su ts.length (gI ts)
  | [] => rfl
  | t :: l => by
    rw [List.sum_cons, sum_gI l, List.length_cons, Su.first]
    rfl
/-- how many of the first are at least so much -/
theorem su_ge {t : Int} {c : Nat} (h1 : t ≤ c) : ∀ m : Nat, Su m (fun k : Nat => if (c : Int) - (k : Nat) ≤ t then 1 else 0) = if (m : Int) ≤ c - t then 0 else m - (c - t)
  | 0 => by rw [if_pos (by omega)]; rfl
  | m + 1 => by
    show Su m _ + (if (c : Int) - (m : Nat) ≤ t then 1 else 0) = _
    rw [su_ge h1 m]
    split <;> split <;> split <;> omega
/-- an injective one hits each place once -/
theorem hit_le {n : Nat} {f : Nat → Nat} (inj : ∀ i < n, ∀ j < n, f i = f j → i = j) (r : Nat) : ∀ m ≤ n, 0 ≤ Su m (fun i => if f i = r then 1 else 0) ∧ Su m (fun i => if f i = r then 1 else 0) ≤ 1 ∧ (Su m (fun i => if f i = r then 1 else 0) = 1 → ∃ i < m, f i = r)
  | 0, _ => ⟨Int.le_refl _, (by show (0 : Int) ≤ 1; decide), fun h => by cases h⟩
  | m + 1, hm => by
    obtain ⟨a, b, c⟩ := hit_le inj r m (by omega)
    show 0 ≤ Su m _ + (if f m = r then 1 else 0) ∧ Su m _ + (if f m = r then 1 else 0) ≤ 1 ∧ (Su m _ + (if f m = r then 1 else 0) = 1 → ∃ i < m + 1, f i = r)
    by_cases e : f m = r
    · rw [if_pos e]
      have : Su m (fun i => if f i = r then 1 else 0) ≠ 1 := fun z => by
        obtain ⟨i, hi, ei⟩ := c z
        have := inj i (by omega) m (by omega) (ei.trans e.symm)
        omega
      exact ⟨by omega, by omega, fun _ => ⟨m, by omega, e⟩⟩
    · rw [if_neg e, Int.add_zero]
      exact ⟨a, b, fun h => by obtain ⟨i, hi, ei⟩ := c h; exact ⟨i, by omega, ei⟩⟩
theorem su_ones (n : Nat) : ∀ {f : Nat → Int}, (∀ i < n, f i ≤ 1) → Su n f = n → ∀ i < n, f i = 1 := by
  induction n with
  | zero => intro f _ _ i hi; exact absurd hi (Nat.not_lt_zero i)
  | succ n ih =>
    intro f h e i hi
    have e' : Su n f + f n = ((n + 1 : Nat) : Int) := e
    have h1 : Su n f ≤ n := by
      have := Su.le (n := n) (f := f) (g := fun _ => 1) fun i hi => h i (by omega)
      rwa [Su.const, Int.mul_one] at this
    have h2 := h n (by omega)
    by_cases z : i = n
    · subst z; omega
    · exact ih (fun i hi => h i (by omega)) (by omega) i (by omega)
theorem hit_one {n : Nat} {f : Nat → Nat} (inj : ∀ i < n, ∀ j < n, f i = f j → i = j) (lt : ∀ i < n, f i < n) : ∀ r < n, Su n (fun i => if f i = r then 1 else 0) = 1 := by
  refine su_ones n (f := fun r => Su n fun i => if f i = r then 1 else 0) (fun r _ => (hit_le inj r n (Nat.le_refl _)).2.1) ?_
  rw [Su.comm (fun r i => if f i = r then 1 else 0) n n, Su.congr (g := fun _ => 1) fun i hi => ?_, Su.const, Int.mul_one]
  refine Eq.trans (Su.congr fun r _ => ?_) (Su.one (c := 1) (lt i hi))
  by_cases h : f i = r
  · rw [if_pos h, if_pos h.symm]
  · rw [if_neg h, if_neg (fun z => h z.symm)]
theorem hit_ex {n : Nat} {f : Nat → Nat} (inj : ∀ i < n, ∀ j < n, f i = f j → i = j) (lt : ∀ i < n, f i < n) {r : Nat} (hr : r < n) : ∃ i < n, f i = r := (hit_le inj r n (Nat.le_refl _)).2.2 (hit_one inj lt r hr)
end
/-- the throws of a ring of n: who lands where is an order -/
structure Pat (n : Nat) (ts : List Int) : Prop where
  len : ts.length = n
  pos : 0 < n
  rg : ∀ k < n, 0 ≤ gI ts k ∧ gI ts k ≤ n
  inj : ∀ i < n, ∀ j < n, hopI ts i = hopI ts j → i = j
section
variable {n : Nat} {ts : List Int}
theorem Pat.at_ (h : Pat n ts) (i : Nat) : 0 ≤ tAt ts i ∧ tAt ts i ≤ n := by
  unfold tAt
  rw [h.len]
  exact h.rg _ (Nat.mod_lt _ h.pos)
theorem Pat.per (h : Pat n ts) (i : Nat) : tAt ts (i + n) = tAt ts i := by unfold tAt; rw [h.len, Nat.add_mod_right]
theorem Pat.hop (h : Pat n ts) (i : Nat) : ((hopI ts i : Nat) : Int) = ((i : Int) + tAt ts i) % (n : Nat) := by
  rw [hop_int (by rw [h.len]; exact h.pos), h.len]
  rfl
theorem Pat.hopLt (h : Pat n ts) (i : Nat) : hopI ts i < n := by
  have := hop_lt (ts := ts) (by rw [h.len]; exact h.pos) i
  rwa [h.len] at this
theorem Pat.hopPer (h : Pat n ts) (i : Nat) : hopI ts (i + n) = hopI ts i := by
  have a := h.hop i
  have b := h.hop (i + n)
  rw [h.per, Int.natCast_add, show (i : Int) + (n : Nat) + tAt ts i = (i : Int) + tAt ts i + (n : Nat) by omega, Int.add_emod_right, ← a] at b
  omega
/-- who is in the air ahead of s -/
def airI (n : Nat) (ts : List Int) (s : Nat) : Int := Su n fun k : Nat => if (n : Int) - (k : Nat) ≤ tAt ts (s + k) then 1 else 0
theorem mod_zero_iff {n : Nat} (hn : 0 < n) {a : Int} (h0 : 0 < a) (h1 : a < 2 * n) : a % (n : Nat) = 0 ↔ a = n := by
  constructor
  · intro h
    by_cases hlt : a < n
    · rw [Int.emod_eq_of_lt (by omega) hlt] at h; omega
    · have e : (a - n) % (n : Nat) = 0 := by rw [Int.sub_emod_right]; exact h
      rw [Int.emod_eq_of_lt (by omega) (by omega)] at e
      omega
  · rintro rfl
    exact Int.emod_self
theorem Pat.lands (h : Pat n ts) (s : Nat) : Su n (fun j : Nat => if ((j : Int) + tAt ts (s + j)) % (n : Nat) = 0 then 1 else 0) = 1 := by
  have hn := h.pos
  have e1 := hit_one (f := hopI ts) h.inj (fun i _ => h.hopLt i) (s % n) (Nat.mod_lt _ hn)
  have cy := Su.cyc (n := n) (f := fun i => if hopI ts i = s % n then 1 else 0) (fun i => by
    show (if hopI ts (i + n) = s % n then (1 : Int) else 0) = _
    rw [h.hopPer]) s
  rw [e1] at cy
  refine Eq.trans (Su.congr fun j _ => ?_) cy
  have a := h.hop (s + j)
  have iff : ((j : Int) + tAt ts (s + j)) % (n : Nat) = 0 ↔ hopI ts (s + j) = s % n := by
    rw [Int.natCast_add] at a
    have e3 : ((s % n : Nat) : Int) = (s : Int) % (n : Nat) := by omega
    constructor
    · intro z
      have : ((hopI ts (s + j) : Nat) : Int) = (s : Int) % (n : Nat) := by
        rw [a, Int.add_assoc, Int.add_emod, z, Int.add_zero, Int.emod_emod]
      omega
    · intro z
      have c : Cg (n : Nat) ((s : Int) + (j : Nat) + tAt ts (s + j)) (s : Int) := Cg.mod_iff.mpr (by rw [← a, z, e3])
      have c2 := c.sub (.refl (s : Int))
      rw [show (s : Int) + (j : Nat) + tAt ts (s + j) - (s : Int) = (j : Int) + tAt ts (s + j) by omega, Int.sub_self] at c2
      have := Cg.mod_iff.mp c2
      rw [this]
      exact Int.zero_emod _
  by_cases z : hopI ts (s + j) = s % n
  · rw [if_pos (iff.mpr z), if_pos z]
  · rw [if_neg (fun w => z (iff.mp w)), if_neg z]
theorem Pat.airStep (h : Pat n ts) (s : Nat) : airI n ts (s + 1) = airI n ts s := by
  obtain ⟨m, rfl⟩ : ∃ m, n = m + 1 := ⟨n - 1, by have := h.pos; omega⟩
  have l := h.lands s
  unfold airI
  rw [Su.first _ m] at l
  rw [Su.first (fun k : Nat => if ((m + 1 : Nat) : Int) - (k : Nat) ≤ tAt ts (s + k) then 1 else 0) m]
  show Su m _ + (if ((m + 1 : Nat) : Int) - (m : Nat) ≤ tAt ts (s + 1 + m) then 1 else 0) = _
  have t := h.at_ s
  have tp := h.per s
  rw [show s + 1 + m = s + (m + 1) by omega, tp]
  have d : Su m (fun j : Nat => (if ((m + 1 : Nat) : Int) - ((j + 1 : Nat) : Int) ≤ tAt ts (s + (j + 1)) then 1 else 0) - (if ((m + 1 : Nat) : Int) - (j : Nat) ≤ tAt ts (s + 1 + j) then (1 : Int) else 0)) = Su m (fun j : Nat => if (((j + 1 : Nat) : Int) + tAt ts (s + (j + 1))) % ((m + 1 : Nat) : Int) = 0 then 1 else 0) := by
    refine Su.congr fun j hj => ?_
    rw [show s + 1 + j = s + (j + 1) by omega]
    have t' := h.at_ (s + (j + 1))
    have iff := mod_zero_iff (n := m + 1) (by omega) (a := ((j + 1 : Nat) : Int) + tAt ts (s + (j + 1))) (by omega) (by omega)
    by_cases z : (((j + 1 : Nat) : Int) + tAt ts (s + (j + 1))) % ((m + 1 : Nat) : Int) = 0
    · rw [if_pos z]
      have := iff.mp z
      rw [if_pos (by omega), if_neg (by omega)]
      rfl
    · rw [if_neg z]
      have : ¬ ((j + 1 : Nat) : Int) + tAt ts (s + (j + 1)) = ((m + 1 : Nat) : Int) := fun w => z (iff.mpr w)
      by_cases q : ((m + 1 : Nat) : Int) - (j : Nat) ≤ tAt ts (s + (j + 1))
      · rw [if_pos (by omega), if_pos q]; rfl
      · rw [if_neg (by omega), if_neg q]; rfl
  rw [Su.sub] at d
  simp only [Nat.add_zero] at l ⊢
  have e0 : ((0 : Nat) : Int) + tAt ts s = tAt ts s := by omega
  have l : (if tAt ts s = 0 ∨ tAt ts s = ((m + 1 : Nat) : Int) then (1 : Int) else 0) + Su m (fun j : Nat => if (((j + 1 : Nat) : Int) + tAt ts (s + (j + 1))) % ((m + 1 : Nat) : Int) = 0 then 1 else 0) = 1 := by
    refine Eq.trans (congrArg (· + _) ?_) l
    by_cases q : tAt ts s = 0
    · rw [if_pos (.inl q), if_pos (by rw [e0, q]; exact Int.zero_emod _)]
    · have iff := mod_zero_iff (n := m + 1) (by omega) (a := tAt ts s) (by omega) (by omega)
      by_cases q2 : tAt ts s = ((m + 1 : Nat) : Int)
      · rw [if_pos (.inr q2), if_pos (by rw [e0]; exact iff.mpr q2)]
      · rw [if_neg (by omega), if_neg (by rw [e0]; exact fun w => q2 (iff.mp w))]
  by_cases c1 : tAt ts s = 0
  · rw [if_pos (.inl c1)] at l
    rw [if_neg
          (by omega), if_neg (by omega)]
    omega
  · by_cases c2 : tAt ts s = ((m + 1 : Nat) : Int)
    · rw [if_pos (.inr c2)] at l
      rw [if_pos
            (by omega), if_pos (by omega)]
      omega
    · rw [if_neg (by omega)] at l
      rw [if_pos (by omega), if_neg (by omega)]
      omega
theorem Pat.air0 (h : Pat n ts) : ∀ s, airI n ts s = airI n ts 0
  | 0 => rfl
  | s + 1 => (h.airStep s).trans (h.air0 s)
theorem Pat.balls (h : Pat n ts) (s : Nat) : airI n ts s = ballsI ts := by
  have hn := h.pos
  have e : Su n (fun s => airI n ts s) = (n : Nat) * airI n ts 0 := by rw [Su.congr (g := fun _ => airI n ts 0) fun s _ => h.air0 s, Su.const]
  have e2 : Su n (fun s => airI n ts s) = ts.sum := by
    unfold airI
    rw [Su.comm (fun s k => if (n : Int) - (k : Nat) ≤ tAt ts (s + k) then 1 else 0) n n]
    rw [Su.congr (g := fun k => Su n fun i => if (n : Int) - (k : Nat) ≤ tAt ts i then 1 else 0) fun k _ => ?_]
    · rw [Su.comm (fun k i => if (n : Int) - (k : Nat) ≤ tAt ts i then 1 else 0) n n, sum_gI, h.len]
      refine Su.congr fun i hi => ?_
      have t := h.at_ i
      rw [su_ge t.2 n]
      have et : tAt ts i = gI ts i := by unfold tAt; rw [h.len, Nat.mod_eq_of_lt hi]
      rw [et] at t ⊢
      split <;> omega
    · have := Su.cyc (n := n) (f := fun i => if (n : Int) - (k : Nat) ≤ tAt ts i then 1 else 0) (fun i => by
        show (if (n : Int) - (k : Nat) ≤ tAt ts (i + n) then (1 : Int) else 0) = _
        rw [h.per]) k
      rw [← this]
      exact Su.congr fun i _ => by rw [Nat.add_comm i k]
  rw [h.air0 s]
  unfold ballsI
  rw [h.len, ← e2, e]
  exact (Int.mul_ediv_cancel_left _ (by omega)).symm
/-- those of a stretch that land behind the ring's end -/
def farI (ts : List Int) (s l : Nat) : List Nat := (List.range l).filter fun k : Nat => decide ((ts.length : Int) - (k : Nat) ≤ tAt ts (s + k))
theorem Pat.open_ (h : Pat n ts) {s l : Nat} (hl : l ≤ n) : openI ts s l = ((farI ts s l).length : Nat) := by
  unfold openI rankI farI
  rw [h.len, ← h.balls s, filt_len, filt_len]
  unfold airI
  obtain ⟨m, rfl⟩ : ∃ m, n = l + m := ⟨n - l, by omega⟩
  rw [Su.split l _ m, show l + m - l = m by omega]
  have e : Su m (fun k => if decide ((k : Int) + tAt ts ((s + l) % (l + m) + k) < (m : Nat)) = true then 1 else 0) + Su m (fun i => if ((l + m : Nat) : Int) - ((l + i : Nat) : Int) ≤ tAt ts (s + (l + i)) then 1 else 0) = m := by
    rw [← Su.add, Su.congr (g := fun _ => 1) fun k _ => ?_, Su.const, Int.mul_one]
    have et : tAt ts ((s + l) % (l + m) + k) = tAt ts (s + (l + k)) := by
      unfold tAt
      rw [h.len, Nat.mod_add_mod]
      congr 2
      omega
    rw [et]
    by_cases q : (k : Int) + tAt ts (s + (l + k)) < (m : Nat)
    · rw [if_pos (decide_eq_true q), if_neg (by omega)]; rfl
    · rw [if_neg (by simpa using q), if_pos (by omega)]; rfl
  have e3 : Su l (fun k => if decide (((l + m : Nat) : Int) - (k : Nat) ≤ tAt ts (s + k)) = true then (1 : Int) else 0) = Su l (fun k => if ((l + m : Nat) : Int) - (k : Nat) ≤ tAt ts (s + k) then 1 else 0) := Su.congr fun k _ => by simp
  rw [e3]
  omega
end
end Sh


set_option Elab.async false
set_option linter.all false
set_option maxRecDepth 100000
set_option maxHeartbeats 40000000
set_option autoImplicit false
/-! M8: greatest lengths; who throws where; chains -/
namespace Sh
open PySem L2
theorem foldMax : ∀ (l : List Int) (t : Int), l.foldl max t ∈ t :: l ∧ ∀ y ∈ t :: l, y ≤ l.foldl max t
  | [], t => ⟨List.mem_cons_self, fun y hy => by rw [List.mem_singleton.mp hy]; exact Int.le_refl _⟩
  | x :: l, t => by
    obtain ⟨a, b⟩ := foldMax l (max t x)
    rw [List.foldl_cons]
    have hm := b _ List.mem_cons_self
    constructor
    · rcases List.mem_cons.mp a with e | e
      · rw [e]
        by_cases h : t ≤ x
        · rw [Int.max_eq_right h]; exact List.mem_cons_of_mem _ List.mem_cons_self
        · rw [Int.max_eq_left (by omega)]; exact List.mem_cons_self
      · exact List.mem_cons_of_mem _ (List.mem_cons_of_mem _ e)
    · intro y hy
      rcases List.mem_cons.mp
            hy with rfl | hy
      · exact Int.le_trans (Int.le_max_left _ _) hm
      · rcases List.mem_cons.mp
              hy with rfl | hy
        · exact Int.le_trans (Int.le_max_right _ _) hm
        · exact b y (List.mem_cons_of_mem _ hy)
theorem foldMin : ∀ (l : List Int) (t : Int), l.foldl min t ∈ t :: l ∧ ∀ y ∈ t :: l, l.foldl min t ≤ y
  | [], t => ⟨List.mem_cons_self, fun y hy => by rw [List.mem_singleton.mp hy]; exact Int.le_refl _⟩
  | x :: l, t => by
    obtain ⟨a, b⟩ := foldMin l (min t x)
    rw [List.foldl_cons]
    have hm := b _ List.mem_cons_self
    constructor
    · rcases List.mem_cons.mp a with e | e
      · rw [e]
        by_cases h : t ≤ x
        · rw [Int.min_eq_left h]; exact List.mem_cons_self
        · rw [Int.min_eq_right (by omega)]; exact List.mem_cons_of_mem _ List.mem_cons_self
      · exact List.mem_cons_of_mem _ (List.mem_cons_of_mem _ e)
    · intro y hy
      rcases List.mem_cons.mp
            hy with rfl | hy
      · exact Int.le_trans hm (Int.min_le_left _ _)
      · rcases List.mem_cons.mp
              hy with rfl | hy
        · exact Int.le_trans hm (Int.min_le_right _ _)
        · exact b y (List.mem_cons_of_mem _ hy)
theorem least_ex {n : Nat} (f : Nat → Int) (hn : 0 < n) : ∃ M, M ∈ (List.range n).map f ∧ ∀ y ∈ (List.range n).map f, M ≤ y := by
  cases h : (List.range n).map f with
  | nil => have := congrArg List.length h; rw [List.length_map, List.length_range] at this; simp at this; omega
  | cons t l => exact ⟨_, foldMin l t⟩
section
variable {n : Nat} {ts : List Int}
theorem Pat.all (h : Pat n ts) {y : Int} (hy : y ∈ ts) : ∃ k < n, gI ts k = y ∧ tAt ts k = y := by
  obtain ⟨k, hk, e⟩ := List.getElem_of_mem hy
  have g := gI_get (ws := ts) hk
  rw [List.getElem?_eq_getElem hk] at g
  have e2 : gI ts k = y := by rw [← e]; exact (Option.some.inj g).symm
  rw [h.len] at hk
  exact ⟨k, hk, e2, by unfold tAt; rw [h.len, Nat.mod_eq_of_lt hk]; exact e2⟩
theorem Pat.mem (h : Pat n ts) (i : Nat) : tAt ts i ∈ ts := by
  unfold tAt
  exact List.mem_of_getElem? (gI_get (by rw [h.len]; exact Nat.mod_lt _ h.pos))
theorem Pat.open0 (h : Pat n ts) {s l : Nat} (hl : l ≤ n) : openI ts s l = 0 ↔ farI ts s l = [] := by
  rw [h.open_ hl, ← List.length_eq_zero_iff]
  omega
theorem far_nil (h : Pat n ts) {s l : Nat} : farI ts s l = [] ↔ ∀ k < l, tAt ts (s + k) < (n : Int) - (k : Nat) := by
  unfold farI
  rw [List.filter_eq_nil_iff, h.len]
  constructor
  · intro q k hk
    have := q k (List.mem_range.mpr hk)
    simpa using this
  · intro q k hk
    have := q k (List.mem_range.mp hk)
    simpa using this
/-- all stretches of a length are mended: by the greatest throw -/
theorem Pat.burst (h : Pat n ts) {mx : Int} (m1 : mx ∈ ts) (m2 : ∀ y ∈ ts, y ≤ mx) {l : Nat} (l1 : 1 ≤ l) (l2 : l ≤ n) : (∀ s < n, rankI ts ((s + l) % n) (n - l) = ballsI ts) ↔ (l : Int) ≤ n - mx := by
  have key : ∀ s, rankI ts ((s + l) % n) (n - l) = ballsI ts ↔ ∀ k < l, tAt ts (s + k) < (n : Int) - (k : Nat) := fun s => by
    rw [← far_nil h, ← h.open0 l2]
    unfold openI
    rw [h.len]
    omega
  constructor
  · intro q
    obtain ⟨i, hi, e1, e2⟩ := h.all m1
    have hs : (i + n - (l - 1)) % n < n := Nat.mod_lt _ h.pos
    have := (key _).mp (q _ hs) (l - 1) (by omega)
    have et : tAt ts ((i + n - (l - 1)) % n + (l - 1)) = tAt ts i := by
      unfold tAt
      rw [h.len, Nat.mod_add_mod, show i + n - (l - 1) + (l - 1) = i + n by omega, Nat.add_mod_right]
    rw [et, e2] at this
    omega
  · intro q s _
    refine (key s).mpr fun k hk => ?_
    have := m2 _ (h.mem (s + k))
    omega
theorem Pat.rankLe (h : Pat n ts) {s l : Nat} (l2 : l ≤ n) : rankI ts ((s + l) % n) (n - l) ≤ ballsI ts := by
  have := h.open_ (s := s) l2
  unfold openI at this
  rw [h.len] at this
  omega
theorem rank_le (ts : List Int) (s l : Nat) : rankI ts s l ≤ l := by unfold rankI; omega
theorem Pat.window (h : Pat n ts) {mn : Int} (m1 : mn ∈ ts) (m2 : ∀ y ∈ ts, mn ≤ y) {l : Nat} (l1 : 1 ≤ l) : (∀ s < n, rankI ts s l = l) ↔ (l : Int) ≤ mn := by
  have key : ∀ s, rankI ts s l = l ↔ ∀ k < l, (l : Int) ≤ (k : Int) + tAt ts (s + k) := fun s => by
    have e : rankI ts s l = l ↔ ((List.range l).filter fun k : Nat => decide ((k : Int) + tAt ts (s + k) < (l : Nat))) = [] := by
      unfold rankI
      rw [← List.length_eq_zero_iff]
      omega
    rw [e, List.filter_eq_nil_iff]
    constructor
    · intro q k hk
      have := q k (List.mem_range.mpr hk)
      simpa using this
    · intro q k hk
      have := q k (List.mem_range.mp hk)
      simpa using this
  constructor
  · intro q
    obtain ⟨i, hi, e1, e2⟩ := h.all m1
    have := (key _).mp (q i hi) 0 (by omega)
    rw [Nat.add_zero, e2] at this
    omega
  · intro q s _
    refine (key s).mpr fun k hk => ?_
    have := m2 _ (h.mem (s + k))
    omega
/-! ### who lands where -/
theorem Pat.thrown (h : Pat n ts) {i : Nat} (hi : i < n) (hn : n ≤ 1000) : ∃ k < n, gI (thrownI ts) i = (k : Nat) ∧ hopI ts k = i := by
  obtain ⟨k, hk, e1, e2⟩ := thrown_at (ts := ts) (i := i) (by rw [h.len]; exact hi)
  rw [h.len] at hk e2
  refine ⟨k, hk, e1, ?_⟩
  have hopE : ∀ k, ((hopI ts k : Nat) : Int) = landI ts k % (n : Nat) := fun k => by rw [hop_int (by rw [h.len]; exact h.pos), h.len]
  have A : ((sortC 1000 (pairsI ts)).map fun q => (gI q 0).toNat) = List.range n := by
    have pm : ((sortC 1000 (pairsI ts)).map fun q => (gI q 0).toNat).Perm ((List.range n).map (hopI ts)) := by
      refine ((sortC_perm 1000 (pairsI ts)).map _).trans (List.Perm.of_eq ?_)
      unfold pairsI
      rw [List.map_map, h.len]
      exact List.map_congr_left fun k _ => by
        show (landI ts k % ((n : Nat) : Int)).toNat = hopI ts k
        have := hopE k
        omega
    have nd : ((List.range n).map (hopI ts)).Nodup := List.pairwise_map.mpr (List.Pairwise.imp_of_mem (fun {a b} ha hb q z => q (h.inj a (List.mem_range.mp ha) b (List.mem_range.mp hb) z)) List.nodup_range)
    refine asc_eq ?_ List.pairwise_lt_range fun x => ?_
    · refine List.Pairwise.imp (R := fun a b => a ≤ b ∧ a ≠ b) (fun q => by omega) (List.Pairwise.and ?_ (pm.nodup_iff.mpr nd))
      refine List.pairwise_map.mpr (List.Pairwise.imp_of_mem (fun {a b} ha hb q => ?_) (sortC_up 1000 (pairsI ts)))
      obtain ⟨ka, hka, rfl⟩ := pairs_mem ha
      obtain ⟨kb, hkb, rfl⟩ := pairs_mem hb
      show (landI ts ka % (ts.length : Nat)).toNat ≤ (landI ts kb % (ts.length : Nat)).toNat
      apply Classical.byContradiction
      intro no
      have bd : ∀ k < ts.length, TS.Bd 1000 [(k : Int)] := fun k hk x hx => by rw [List.mem_singleton.mp hx]; rw [h.len] at hk; omega
      have a0 := modLt (show (0 : Int) < (ts.length : Nat) by omega) (landI ts ka)
      have b0 := modLt (show (0 : Int) < (ts.length : Nat) by omega) (landI ts kb)
      generalize landI ts ka % ((ts.length : Nat) : Int) = A at *
      generalize landI ts kb % ((ts.length : Nat) : Int) = B at *
      have := TS.code_lt (B := 1000) (d := B) (e := A) (r := [(kb : Int)]) (q := [(ka : Int)]) rfl (bd kb hkb) (bd ka hka) (by omega)
      omega
    · rw [pm.mem_iff, List.mem_map, List.mem_range]
      constructor
      · rintro ⟨k, _, rfl⟩; exact h.hopLt k
      · intro hx
        obtain ⟨k, hk, e⟩ := hit_ex (f := hopI ts) h.inj (fun i _ => h.hopLt i) hx
        exact ⟨k, List.mem_range.mpr hk, e⟩
  have q : ((sortC 1000 (pairsI ts)).map fun q => (gI q 0).toNat)[i]? = some (hopI ts k) := by
    rw [List.getElem?_map, e2]
    show some ((landI ts k % ((n : Nat) : Int)).toNat) = _
    have := hopE k
    congr 1
    omega
  rw [A, List.getElem?_range hi] at q
  exact (Option.some.inj
        q).symm
/-! ### chains -/
theorem Pat.itLt (h : Pat n ts) {k : Nat} (hk : k < n) : ∀ j, itN (hopI ts) j k < n
  | 0 => hk
  | j + 1 => h.hopLt _
theorem itN_add (f : Nat → Nat) (x : Nat) (b : Nat) : ∀ a, itN f (a + b) x = itN f a (itN f b x)
  | 0 => by rw [Nat.zero_add]; rfl
  | a + 1 => by
    rw [show a + 1 + b = (a + b) + 1 by omega]
    show f (itN f (a + b) x) = f (itN f a (itN f b x))
    rw [itN_add f x b a]
theorem Pat.itInj (h : Pat n ts) : ∀ (j : Nat) {x y : Nat}, x < n → y < n → itN (hopI ts) j x = itN (hopI ts) j y → x = y
  | 0, _, _, _, _, e => e
  | j + 1, _, _, hx, hy, e => h.itInj j hx hy (h.inj _ (h.itLt hx j) _ (h.itLt hy j) e)
theorem least_one {Q : Nat → Prop} : ∀ b : Nat, (∃ j, 1 ≤ j ∧ j ≤ b ∧ Q j) → ∃ m, 1 ≤ m ∧ m ≤ b ∧ Q m ∧ ∀ j, 0 < j → j < m → ¬ Q j
  | 0, ⟨j, h1, h2, _⟩ => absurd h1 (by omega)
  | b + 1, ⟨j, h1, h2, hq⟩ => by
    by_cases h : ∃ j, 1 ≤ j ∧ j ≤ b ∧ Q j
    · obtain ⟨m, a1, a2, a3, a4⟩ := least_one b h
      exact ⟨m, a1, by omega, a3, a4⟩
    · exact ⟨j, h1, h2, hq, fun i i0 i1 qi => h ⟨i, by omega, by omega, qi⟩⟩
theorem Pat.chain (h : Pat n ts) {k : Nat} (hk : k < n) : ∃ m, 1 ≤ m ∧ m ≤ n ∧ itN (hopI ts) m k = k ∧ ∀ j, 0 < j → j < m → itN (hopI ts) j k ≠ k := by
  apply least_one n
  apply Classical.byContradiction
  intro no
  have nd : ((List.range (n + 1)).map fun j => itN (hopI ts) j k).Nodup := by
    refine List.pairwise_map.mpr (List.Pairwise.imp_of_mem (fun {a b} ha hb q z => no ?_) List.pairwise_lt_range)
    have hb := List.mem_range.mp hb
    refine ⟨b - a, by omega, by omega, ?_⟩
    have e := itN_add (hopI ts) k (b - a) a
    rw [show a + (b - a) = b by omega] at e
    exact (h.itInj a hk (h.itLt hk _) (z.trans e)).symm
  have := nodup_lt n _ nd fun x hx => by
    obtain ⟨j, _, rfl⟩ := List.mem_map.mp hx
    exact h.itLt hk j
  rw [List.length_map, List.length_range] at this
  omega
theorem Pat.tele (h : Pat n ts) (k : Nat) : ∀ m, Cg (n : Nat) (Su m fun j => tAt ts (itN (hopI ts) j k)) ((itN (hopI ts) m k : Int) - (k : Int))
  | 0 => .of (by show (0 : Int) = (k : Int) - (k : Int); omega)
  | m + 1 => by
    have a := h.hop (itN (hopI ts) m k)
    have c : Cg (n : Nat) (((hopI ts (itN (hopI ts) m k) : Nat) : Int)) ((itN (hopI ts) m k : Int) + tAt ts (itN (hopI ts) m k)) := by rw [a]; exact .mod _
    have t := (h.tele k m).add (Cg.refl (p := (n : Nat)) (tAt ts (itN (hopI ts) m k)))
    refine t.trans ?_
    have c2 := (c.sub (.refl (k : Int))).symm
    refine Cg.trans (.of ?_) c2
    omega
theorem Pat.loop (h : Pat n ts) {k m : Nat} (e : itN (hopI ts) m k = k) : (Su m fun j => tAt ts (itN (hopI ts) j k)) % (n : Nat) = 0 := by
  have t := h.tele k m
  rw [e, Int.sub_self] at t
  rw [Cg.mod_iff.mp t]
  exact Int.zero_emod _
theorem sum_range (f : Nat → Int) : ∀ m, ((List.range m).map f).sum = Su m f
  | 0 => rfl
  | m + 1 => by
    rw [List.range_succ, List.map_append, List.sum_append, sum_range f m]
    show Su m f + (f m + 0) = Su m f + f m
    rw [Int.add_zero]
end
end Sh


set_option Elab.async false
set_option linter.all false
set_option maxRecDepth 100000
set_option maxHeartbeats 40000000
set_option autoImplicit false
/-! W8: the law's own small defs -/
namespace Sh
open PySem PySem.Spec
      PyProof.Rows L2
section
variable {P : Program} {w : World} {K :
      PySem.W.Frag} {mg : Str → Option Value} {base : Heap}
def R_L_same (args : List PyData) (d : PyData) : Prop := ∃ x, args = [x, x] ∧ d = .bool true ∧ smD 4 x = true
theorem ok_L_same (L : Lib K mg fns bls) : CalG P w K mg base "_law_same" 1 (spP R_L_same) := by
  refine cal_pureG (N := ["_law_heard_here", "_law_due"]) (ps := ["_law_heard_here", "_law_due"]) (k := 0) L 48 rfl ⟨rfl, rfl, rfl, by decide +kernel, rfl, by decide +kernel, by decide +kernel⟩ (bind2 fun _ _ _ _ _ _ _ _ => rfl) ?_ ?_
  · rintro args d ⟨_, rfl, _⟩; rfl
  rintro args d ⟨x, rfl, rfl, hx⟩ fa
  refine js_retE (je_eqS (je_repr 4 rfl (je_var (n := 0) rfl) hx (by decide) (L.bl _ (by decide))) (je_repr 4 rfl (je_var (n := 1) rfl) hx (by decide) (L.bl _ (by decide)))) ?_ rfl
  simp
def R_L_balls (args : List PyData) (d : PyData) : Prop := ∃ (ts : List Int), args = [tI ts] ∧ d = .int (ballsI ts) ∧ 0 < ts.length ∧ ts.length ≤ 1000
theorem ok_L_balls (L : Lib K mg fns bls) : Cal P w K mg base "_law_balls" 1 (spP R_L_balls) := by
  refine cal_pure (N := ["_law_some"]) (ps := ["_law_some"]) (k := 0) L 53 rfl ⟨rfl, rfl, rfl, by decide +kernel, rfl, by decide +kernel, by decide +kernel⟩ (bind1 fun _ _ _ _ _ _ _ => rfl) ?_ ?_
  · rintro args d ⟨_, rfl, _⟩; rfl
  rintro args d ⟨ts, rfl, rfl, hn, hn2⟩ fa
  exact js_retE (je_fdiv (je_sumT (je_var (n := 0) rfl) (L.bl _ (by decide))) (JE.is (je_len (je_var (n := 0) rfl) (.t _) (L.bl _ (by decide))) (y := .int (ts.length : Nat)) (by rw [List.length_map])) ⟨by omega, by omega⟩) rfl rfl
def R_L_rank (args : List PyData) (d : PyData) : Prop := ∃ (ts : List Int) (s l : Nat), args = [tI ts, .int (s : Nat), .int (l : Nat)] ∧ d = .int (rankI ts s l) ∧ 0 < ts.length ∧ l ≤ 1000
theorem ok_L_rank (L : Lib K mg fns bls) : Cal P w K mg base "_law_rank" 1 (spP R_L_rank) := by
  refine cal_pure (N := ["_law_some", "_law_start", "_law_many", "_law_within", "_law_k"]) (ps := ["_law_some", "_law_start", "_law_many"]) (k := 0) L 54 rfl ⟨rfl, rfl, rfl, by decide +kernel, rfl, by decide +kernel, by decide +kernel⟩ (bind3 fun _ _ _ _ _ _ _ _ _ => rfl) ?_ ?_
  · rintro args d ⟨_, _, _, rfl, _⟩; rfl
  rintro args d ⟨ts, s, l, rfl, rfl, hn, hl⟩ fa
  refine js_asgFl (pr := fun k : Int => decide (k + tAt ts (s + k.toNat) < (l : Nat))) (f := fun k : Int => .int k) (i := 3) (own := [("_law_k", 4)]) rfl (jw_range1 (j := 4) (je_var (n := 2) rfl) (L.bl _ (by decide)) (by omega)) (pg_nameS (j := 4)) (fun v_k hm => ?_) (fun v_k hm hp => (je_var (n := 4) rfl)) (by rw [len_rangeI]; omega) (d := lN ((List.range l).filter fun k : Nat => decide ((k : Int) + tAt ts (s + k) < (l : Nat)))) ?_ ?_
  · obtain ⟨k, rfl, hk⟩ := range_nat hm
    have hb : (s + k) % ts.length < ts.length := Nat.mod_lt _ hn
    exact jt_lt (je_add (je_var (n := 4) rfl) (je_ixT (je_var (n := 0) rfl) (je_mod (je_int1 (je_add (je_var (n := 1) rfl) (je_var (n := 4) rfl)) (L.bl _ (by decide))) (JE.is (je_len (je_var (n := 0) rfl) (.t _) (L.bl _ (by decide))) (y := .int (ts.length : Nat)) (by rw [List.length_map])) (by omega)) (d := .int (tAt ts (s + k))) (by
      have := atI_int hb
      rw [nat_mod] at this
      rw [← Int.natCast_add]
      exact this))) (je_var (n := 2) rfl)
  · rw [filt_range]
    rfl
  refine js_retE (je_sub (je_var (n := 2) rfl) (je_len (je_var (n := 3) rfl) (.l _) (L.bl _ (by decide)))) ?_ rfl
  rw [List.length_map]
  rfl
def R_L_less (args : List PyData) (d : PyData) : Prop := ∃ (p e : Int) (ws rs : List Int), args = [.int p, lI ws, lI rs, .int e] ∧ d = lI (lessI p ws e rs) ∧ 0 < p ∧ ws.length ≤ 1000 ∧ rs.length = ws.length ∧ -1000 ≤ e ∧ e ≤ 1000
theorem ok_L_less (L : Lib K mg fns bls) : Cal P w K mg base "_law_less" 1 (spP R_L_less) := by
  refine cal_pure (N := ["_law_base", "_law_row", "_law_own", "_law_many", "_law_k"]) (ps := ["_law_base", "_law_row", "_law_own", "_law_many"]) (k := 0) L 56 rfl ⟨rfl, rfl, rfl, by decide +kernel, rfl, by decide +kernel, by decide +kernel⟩ (bind4 fun _ _ _ _ _ _ _ _ _ _ => rfl) ?_ ?_
  · rintro args d ⟨_, _, _, _, rfl, _⟩; rfl
  rintro args d ⟨p, e, ws, rs, rfl, rfl, hp, hl, hr, h0, h1⟩ fa
  refine js_retE (je_lcm (f := fun k : Int => .int ((gI ws k.toNat - e * gI rs k.toNat) % p)) (own := [("_law_k", 4)]) rfl (jw_range1 (j := 4) (JE.is (je_len (je_var (n := 1) rfl) (.l _) (L.bl _ (by decide))) (y := .int (ws.length : Nat)) (by rw [List.length_map])) (L.bl _ (by decide)) (by omega)) (pg_nameS (j := 4)) (fun v_k hm => ?_) (by rw [len_rangeI]; omega)) ?_ rfl
  · obtain ⟨k, rfl, hk⟩ := range_nat hm
    exact je_mod (je_int1 (je_sub (je_ixL (je_var (n := 1) rfl) (je_var (n := 4) rfl) (atI_int hk)) (je_mul (je_var (n := 3) rfl) (je_ixL (je_var (n := 2) rfl) (je_var (n := 4) rfl) (atI_int (by omega))) (cmul_l (by omega) (by omega)))) (L.bl _ (by decide))) (je_var (n := 0) rfl) hp
  · rw [map_range]
    unfold lI lstE lessI
    congr 1
    apply List.ext_getElem?
    intro i
    rw [List.getElem?_map,
          List.getElem?_map]
    by_cases h : i < ws.length
    · rw [List.getElem?_range h, List.getElem?_map, List.getElem?_zip_eq_some (z := (gI ws i, gI rs i)) |>.mpr ⟨gI_get h, gI_get (show i < rs.length by omega)⟩]
      rfl
    · rw [List.getElem?_eq_none (by rw [List.length_range]; omega), List.getElem?_eq_none (by rw [List.length_map, List.length_zip]; omega)]
      rfl
def R_L_places (args : List PyData) (d : PyData) : Prop := ∃ (n s l : Nat), args = [.int (n : Nat), .int (s : Nat), .int (l : Nat)] ∧ d = lN (ringI n s l) ∧ 0 < n ∧ l ≤ 1000
theorem ok_L_places (L : Lib K mg fns bls) : Cal P w K mg base "_law_places" 1 (spP R_L_places) := by
  refine cal_pure (N := ["_law_many", "_law_start", "_law_length", "_law_k"]) (ps := ["_law_many", "_law_start", "_law_length"]) (k := 0) L 61 rfl ⟨rfl, rfl, rfl, by decide +kernel, rfl, by decide +kernel, by decide +kernel⟩ (bind3 fun _ _ _ _ _ _ _ _ _ => rfl) ?_ ?_
  · rintro args d ⟨_, _, _, rfl, _⟩; rfl
  rintro args d ⟨n, s, l, rfl, rfl, hn, hl⟩ fa
  refine js_retE (je_lcm (own := [("_law_k", 3)]) rfl (jw_range1 (j := 3) (je_var (n := 2) rfl) (L.bl _ (by decide)) (by omega)) (pg_nameS (j := 3)) (fun v_k hm => (je_mod (je_int1 (je_add (je_var (n := 1) rfl) (je_var (n := 3) rfl)) (L.bl _ (by decide))) (je_var (n := 0) rfl) (by omega))) (by rw [len_rangeI]; omega)) ?_ rfl
  rw [map_range]
  unfold lN lstE ringI
  rw [List.map_map]
  congr 1
end
end Sh


set_option Elab.async false
set_option linter.all false
set_option maxRecDepth 100000
set_option maxHeartbeats 40000000
set_option autoImplicit false
/-! M6: the law's own Gauss gives the same rows -/
namespace Sh
open PySem L2
def notZ (r : List Int) : Bool := !((r.filter fun d => decide (d ≠ 0)).isEmpty)
def ownI (p : Int) (r0 : List Int) (k : Nat) : List Int := timesI p (invI p (gI r0 k)) r0
def stepS (p : Int) (st : List (List Int) × List (List Int)) (k : Nat) : List (List Int) × List (List Int) :=
  match st.1.filter fun r => decide (gI r k ≠ 0) with
  | [] => st
  | r0 :: _ => ((st.1.map fun r => lessI p r (gI r k) (ownI p r0 k)).filter notZ, (st.2.map fun r => lessI p r (gI r k) (ownI p r0 k)) ++ [ownI p r0 k])
def settledI (p : Int) (rows : List (List Int)) : List (List Int) := ((List.range (rows.headD []).length).foldl (stepS p) (rows, [])).2
theorem notZ_false {r : List Int} (h : notZ r = false) (i : Nat) : gI r i = 0 := by
  unfold notZ at h
  simp only [Bool.not_eq_false', List.isEmpty_iff, List.filter_eq_nil_iff, decide_eq_true_eq, Classical.not_not] at h
  by_cases hi : i < r.length
  · have := gI_get hi
    exact h _ (List.mem_of_getElem? this)
  · exact gI_out (by omega)
section
variable {p : Int} {n : Nat} {rows : List (List Int)}
structure SetOk (p : Int) (n : Nat) (rows : List (List Int)) (k : Nat) (st : List (List Int) × List (List Int)) : Prop where
  wd : ∀ r ∈ st.1, Wd p n r
  low : ∀ r ∈ st.1, ∀ j < k, gI r j = 0
  red : Red p n st.2
  asc : Asc st.2
  lt : ∀ r ∈ st.2, ldg r < k
  sp : SpEq p (st.1 ++ st.2) rows
  sm : st.1.length ≤ rows.length
theorem asc_map : ∀ {A B : List (List Int)}, A.map ldg = B.map ldg → Asc A → Asc B := fun {A B} e h => by
  have h1 : (A.map ldg).Pairwise (· < ·) := List.pairwise_map.mpr h
  rw [e] at h1
  exact List.pairwise_map.mp h1
theorem set_step (hp : isP p) {k : Nat} (hk : k < n) {st : List (List Int) × List (List Int)} (h : SetOk p n rows k st) : SetOk p n rows (k + 1) (stepS p st k) := by
  have hp2 := hp.two
  unfold stepS
  cases q : st.1.filter fun r => decide (gI r k ≠ 0) with
  | nil =>
    have hz : ∀ r ∈ st.1, gI r k = 0 := fun r hr => by
      have := List.filter_eq_nil_iff.mp q r hr
      simpa using this
    refine ⟨h.wd, fun r hr j hj => ?_, h.red, h.asc, fun r hr => Nat.lt_succ_of_lt (h.lt r hr), h.sp, h.sm⟩
    rcases Nat.lt_succ_iff_lt_or_eq.mp hj with z | z
    · exact h.low r hr j z
    · rw [z]; exact hz r hr
  | cons r0 l =>
    have hm : r0 ∈ st.1.filter fun r => decide (gI r k ≠ 0) := by rw [q]; exact List.mem_cons_self
    obtain ⟨m0, m1⟩ := List.mem_filter.mp hm
    have hne : gI r0 k ≠ 0 := by simpa using m1
    have w0 := h.wd r0 m0
    have ld : lead r0 = some k := lead_of_first (by rw [w0.1]; exact hk) hne (h.low r0 m0)
    have eo : ownI p r0 k = ledI p r0 := by unfold ownI ledI; rw [ldg_some ld]
    obtain ⟨o1, o2, o3⟩ := led_spec hp w0 ld
    rw [← eo] at o1 o2 o3
    have oz : ∀ j < k, gI (ownI p r0 k) j = 0 := (lead_some o2).2.2
    obtain ⟨r1, r2, r3⟩ := red_snoc hp2 h.red o1 o2 o3 fun r hr => oz _ (h.lt r hr)
    have lw : ∀ r ∈ st.1, Wd p n (lessI p r (gI r k) (ownI p r0 k)) := fun r hr => .less (by omega) (h.wd r hr).1 o1.1
    refine ⟨fun r hr => ?_, fun r hr j hj => ?_, r1, ?_, fun r hr => ?_, ?_, ?_⟩
    · obtain ⟨s, hs, rfl⟩ := List.mem_map.mp (List.mem_filter.mp hr).1
      exact lw s hs
    · obtain ⟨s, hs, rfl⟩ := List.mem_map.mp (List.mem_filter.mp hr).1
      rw [gI_less (h.wd s hs).1 o1.1 (by omega)]
      rcases Nat.lt_succ_iff_lt_or_eq.mp hj with z | z
      · rw [h.low s hs j z, oz j z, Int.mul_zero, Int.sub_zero, Int.zero_emod]
      · rw [z, o3, Int.mul_one, Int.sub_self, Int.zero_emod]
    · refine List.pairwise_append.mpr ⟨asc_map r3.symm h.asc, List.pairwise_singleton _ _, fun a ha b hb => ?_⟩
      rw [List.mem_singleton.mp hb, ldg_some o2]
      have : ldg a ∈ (st.2.map fun one => lessI p one (gI one k) (ownI p r0 k)).map ldg := List.mem_map.mpr ⟨a, ha, rfl⟩
      rw [r3] at this
      obtain ⟨c, hc, e⟩ := List.mem_map.mp this
      rw [← e]
      exact h.lt c hc
    · rcases List.mem_append.mp hr with z | z
      · have : ldg r ∈ (st.2.map fun one => lessI p one (gI one k) (ownI p r0 k)).map ldg := List.mem_map.mpr ⟨r, z, rfl⟩
        rw [r3] at this
        obtain ⟨c, hc, e⟩ := List.mem_map.mp this
        have := h.lt c hc
        omega
      · rw [List.mem_singleton.mp z, ldg_some o2]
        omega
    · have ownS : Span p (st.1 ++ st.2) (gI (ownI p r0 k)) := by
        have : Span p (st.1 ++ st.2) fun i => invI p (gI r0 k) * gI r0 i := (Span.mem (List.mem_append_left _ m0)).smul _
        exact this.cg fun i => times_cg i
      refine SpEq.trans (.of (fun r hr => ?_) fun r hr => ?_) h.sp
      · rcases List.mem_append.mp hr with z | z
        · obtain ⟨s, hs, rfl⟩ := List.mem_map.mp (List.mem_filter.mp z).1
          have s1 : Span p (st.1 ++ st.2) (gI s) := .mem (List.mem_append_left _ hs)
          exact (s1.sub (ownS.smul (gI s k))).cg fun i => less_cg (h.wd s hs).1 o1.1 i
        · have s1 : Span p (st.2 ++ [ownI p r0 k]) (gI r) := (r2 (gI r)).mp (.mem z)
          refine s1.trans fun t ht => ?_
          rcases List.mem_append.mp ht with y | y
          · exact .mem (List.mem_append_right _ y)
          · rw [List.mem_singleton.mp y]; exact ownS
      · let N := (st.1.map fun r => lessI p r (gI r k) (ownI p r0 k)).filter notZ ++ ((st.2.map fun r => lessI p r (gI r k) (ownI p r0 k)) ++ [ownI p r0 k])
        have oN : Span p N (gI (ownI p r0 k)) := .mem (List.mem_append_right _ (List.mem_append_right _ List.mem_cons_self))
        rcases List.mem_append.mp hr with z | z
        · have s1 : Span p N (gI (lessI p r (gI r k) (ownI p r0 k))) := by
            cases e : notZ (lessI p r (gI r k) (ownI p r0 k)) with
            | true => exact .mem (List.mem_append_left _ (List.mem_filter.mpr ⟨List.mem_map.mpr ⟨r, z, rfl⟩, e⟩))
            | false => exact .zero fun i => .of (notZ_false e i)
          refine (s1.add (oN.smul (gI r k))).cg fun i => ?_
          have t := less_cg (p := p) (d := gI r k) (h.wd r z).1 o1.1 i
          exact (Cg.of (by omega : gI r i = gI r i - gI r k * gI (ownI p r0 k) i + gI r k * gI (ownI p r0 k) i)).trans (t.symm.add (.refl _))
        · have s1 : Span p (((st.2.map fun r => lessI p r (gI r k) (ownI p r0 k)) ++ [ownI p r0 k])) (gI r) := (r2 (gI r)).mpr (.mem (List.mem_append_left _ z))
          exact s1.mono fun t ht => List.mem_append_right _ ht
    · exact Nat.le_trans (List.length_filter_le _ _) (by rw [List.length_map]; exact h.sm)
theorem set_ok (hp : isP p) (hw : ∀ r ∈ rows, Wd p n r) : ∀ k, k ≤ n → SetOk p n rows k ((List.range k).foldl (stepS p) (rows, []))
  | 0, _ => ⟨hw, fun r _ j hj => absurd hj (Nat.not_lt_zero _), Red.nil, List.Pairwise.nil, fun r hr => (List.not_mem_nil hr).elim, by
      show SpEq p (rows ++ []) rows
      rw [List.append_nil]
      exact fun v => Iff.rfl, Nat.le_refl _⟩
  | k + 1, hk => by
    rw [List.range_succ,
          List.foldl_append]
    exact set_step hp (by omega) (set_ok hp hw k (by omega))
theorem settled_eq (hp : isP p) (hw : ∀ r ∈ rows, Wd p n r) : settledI p rows = reducedI p rows := by
  obtain ⟨a, b, c, _⟩ := reduced_red hp hw
  unfold settledI
  cases rows with
  | nil =>
    have : reducedI p [] = [] := by
      unfold reducedI gaussI sortC
      simp
    rw [this]
    rfl
  | cons r l =>
    have e : ((r :: l).headD []).length = n := (hw r List.mem_cons_self).1
    rw [e]
    have h := set_ok hp hw n (Nat.le_refl _)
    refine Red.uniq hp.two h.red a h.asc b (SpEq.trans (.of (fun s hs => .mem (List.mem_append_right _ hs)) fun s hs => ?_) (h.sp.trans c.symm))
    rcases List.mem_append.mp hs with z | z
    · refine .zero fun i => .of ?_
      by_cases hi : i < n
      · exact h.low s z i hi
      · exact gI_out (by rw [(h.wd s z).1]; omega)
    · exact .mem z
end
end Sh


set_option Elab.async false
set_option linter.all false
set_option maxRecDepth 100000
set_option maxHeartbeats 40000000
set_option autoImplicit false
/-! W9: _law_settled -/
namespace Sh
open PySem PySem.Spec
      PyProof.Rows L2
theorem rangeI_at {n i : Nat} {a : Int} (h : (rangeI 0 (n : Int))[i]? = some a) : a = (i : Int) ∧ i < n := by
  rw [rangeI_nat, List.getElem?_map] at h
  by_cases hi : i < n
  · rw [List.getElem?_range hi] at h
    cases h
    exact ⟨rfl, hi⟩
  · rw [List.getElem?_eq_none (by rw [List.length_range]; omega)] at h
    cases h
theorem okD_lI (n : Nat) (ws : List Int) : okD (n + 1) (lI ws) = true := by
  show (ws.map PyData.int).all (okD n) = true
  rw [List.all_map]
  exact List.all_eq_true.mpr fun _ _ => by cases n <;> rfl
theorem okD_lLI (n : Nat) (rows : List (List Int)) : okD (n + 2) (lLI rows) = true := by
  show (rows.map (lstE PyData.int)).all (okD (n + 1)) = true
  rw [List.all_map]
  exact List.all_eq_true.mpr fun r _ => okD_lI n r
section
variable {P : Program} {w : World} {K :
      PySem.W.Frag} {mg : Str → Option Value} {base : Heap}
def R_L_settled (args : List PyData) (d : PyData) : Prop := ∃ (p : Int) (n : Nat) (rows : List (List Int)) (enc : List Int → PyData), args = [.int p, lstE enc rows] ∧ d = tTI (reducedI p rows) ∧ isP p ∧ n ≤ 100 ∧ rows.length ≤ 100 ∧ (∀ r ∈ rows, Wd p n r) ∧ (enc = lstE PyData.int ∨ enc = tupE PyData.int)
theorem ok_L_settled (L : Lib K mg fns bls) : Cal P w K mg base "_law_settled" 2 (spP R_L_settled) := by
  refine cal_pure (N := ["_law_base", "_law_rows", "_law_many", "_law_k", "_law_rest", "_law_found", "_law_some", "_law_back_here", "_law_own", "_law_row", "_law_d"]) (ps := ["_law_base", "_law_rows"]) (k := 1) L 55 rfl ⟨rfl, rfl, rfl, by decide +kernel, rfl, by decide +kernel, by decide +kernel⟩ (bind2 fun _ _ _ _ _ _ _ _ => rfl) ?_ ?_
  · rintro args d ⟨_, _, _, _, rfl, _⟩; rfl
  rintro args d ⟨p, n, rows, enc, rfl, rfl, hp, hn, hl, hw, henc⟩ fa
  have sq : ∀ r, IsSeq (enc r) (r.map PyData.int) := fun r => by
    rcases henc with rfl | rfl
    · exact .l _
    · exact .t _
  have oke : ∀ rows, okD 3 (lstE enc rows) = true := fun rows => by
    show (rows.map enc).all (okD 2) = true
    rw [List.all_map]
    refine List.all_eq_true.mpr fun r _ => ?_
    rcases henc with rfl | rfl
    · exact okD_lI 1 r
    · exact okD_lI 1 r
  have hp1 := hp.two
  have hp2 := hp.le
  have hm : (rows.headD []).length ≤ n := by
    cases rows with
    | nil => exact Nat.zero_le _
    | cons r l => rw [show ((r :: l).headD []).length = n from (hw r List.mem_cons_self).1]; exact Nat.le_refl _
  refine js_par2 (i := 4) (j := 5) (JE.is (je_lcm (f := fun r : List Int => lI r) (own := [("_law_row", 9)]) rfl (jw_list (j := 9) (enc := enc) (items := rows) (je_var (n := 1) rfl)) (pg_nameS (j := 9)) (fun v_row hm => (je_listS (je_var (n := 9) rfl) (sq v_row) (L.bl _ (by decide)))) (by omega)) (y := lLI rows) rfl) (je_lst ja_nil) ?_
  refine js_asgE (i := 2) (x := .int ((rows.headD []).length : Nat)) (?_ : JE _ _ _ _) (d := .int ((rows.headD []).length : Nat)) rfl ?_
  · cases rows with
    | nil => exact JE.is (je_iteI (u := 0) (v := 0) (jt_neD 3 (je_var (n := 1) rfl) (je_lst ja_nil) rfl rfl) (fun hc => by cases hc) fun _ => je_int) rfl
    | cons r l =>
      refine JE.is (je_iteI (u := (r.length : Nat)) (v := 0) (jt_is (jt_neD 3 (je_var (n := 1) rfl) (je_lst ja_nil) (oke (r :: l)) rfl) (l := true) (by rw [show lstE enc (r :: l) = PyData.list _ from rfl, eqv_nilL]; rfl)) (fun _ => JE.is (je_len (je_ixL (je_var (n := 1) rfl) je_int (d := enc r) (atI_nat (i := 0) rfl)) (sq r) (L.bl _ (by decide))) (by rw [List.length_map])) fun _ => je_int) ?_
      rfl
  have inv := set_ok hp hw
  refine js_forM (P := fun i ds' => ∃ a b c e f g, ds' = [.val (.int p), .val (lstE enc rows), .val (.int ((rows.headD []).length : Nat)), a, .val (lLI ((List.range i).foldl (stepS p) (rows, [])).1), .val (lLI ((List.range i).foldl (stepS p) (rows, [])).2), b, c, e, f, g])
    (jw_range1 (j := 3) (je_var (n := 2) rfl) (L.bl _ (by decide)) (by omega)) (pg_nameS (j := 3)) ⟨_, _, _, _, _, _, rfl⟩ (fun i a ds' hi hP => ?_) fun ds' hP => ?_
  · obtain ⟨u1, u2, u3, u4, u5, u6, rfl⟩ := hP
    obtain ⟨rfl, hin⟩ := rangeI_at hi
    have hS := inv i (by omega)
    have e : (List.range (i + 1)).foldl (stepS p) (rows, []) = stepS p ((List.range i).foldl (stepS p) (rows, [])) i := by rw [List.range_succ, List.foldl_append]; rfl
    generalize (List.range i).foldl (stepS p) (rows, []) = st at hS e ⊢
    have hz := hS.sm
    have hfl := red_len hS.red
    refine js_asgCell (i := 6) (je_lcf (pr := fun r : List Int => decide (gI r i ≠ 0)) (f := fun r : List Int => lI r) (own := [("_law_row", 9)]) rfl (jw_list (j := 9) (enc := lstE .int) (items := st.1) (je_var (n := 4) rfl)) (pg_nameS (j := 9)) (fun v_row hm => (jt_neI (je_ixL (je_var (n := 9) rfl) (je_var (n := 3) rfl) (atI_int (by rw [(hS.wd _ hm).1]; omega))) je_int)) (fun v_row hm hp => (je_var (n := 9) rfl)) (by omega)) (d := lLI (st.1.filter fun r => decide (gI r i ≠ 0))) rfl ?_
    cases q : st.1.filter fun r => decide (gI r i ≠ 0) with
    | nil =>
      refine js_ifNo (jt_neD 3 (je_var (n := 6) rfl) (je_lst ja_nil) rfl rfl) rfl (js_nil ?_)
      have e2 : stepS p st i = st := by unfold stepS; simp only [q]
      rw [e, e2]
      exact ⟨_, _, _, _, _, _, rfl⟩
    | cons r0 l =>
      have hm0 : r0 ∈ st.1.filter fun r => decide (gI r i ≠ 0) := by rw [q]; exact List.mem_cons_self
      obtain ⟨m0, m1⟩ := List.mem_filter.mp hm0
      have w0 := hS.wd r0 m0
      have hne : gI r0 i ≠ 0 := by simpa using m1
      have bd := w0.get (i := i) (by omega) (by omega)
      have e2 : stepS p st i = ((st.1.map fun r => lessI p r (gI r i) (ownI p r0 i)).filter notZ, (st.2.map fun r => lessI p r (gI r i) (ownI p r0 i)) ++ [ownI p r0 i]) := by unfold stepS; simp only [q]
      have ow : Wd p n (ownI p r0 i) := .times (by omega) w0.1
      refine js_iff (k := true) (jt_is (jt_neD 3 (je_var (n := 6) rfl) (je_lst ja_nil) (okD_lLI 1 (r0 :: l)) rfl) (by rw [show lLI (r0 :: l) = PyData.list _ from rfl, eqv_nilL]; rfl)) (fun hc => ?_) fun hc => by cases hc
      have at0 : ∀ {S : SC} {ds : List Slot} {e1 e2 : Expr} {pos : Pos}, JE S ds e1 (lLI (r0 :: l)) → JE S ds e2 (.int 0) → PlainIx e2 → JE S ds (.Subscript e1 e2 pos) (lI r0) := fun h1 h2 h3 => je_ixL h1 h2 (atI_nat (i := 0) rfl) h3
      refine js_asgE (i := 7) (je_ixL (je_lcf (pr := fun one : Int => decide (one * gI r0 i % p = 1)) (f := fun one : Int => .int one) (own := [("_law_d", 10)]) rfl (jw_range2 (j := 10) je_int (je_var (n := 0) rfl) (L.bl _ (by decide)) ⟨by omega, by omega, by omega, by omega⟩) (pg_nameS (j := 10)) (fun v_d hm => (jt_eqI (je_mod (je_int1 (je_mul (je_var (n := 10) rfl) (je_ixL (je_ixL (je_var (n := 6) rfl) je_int (d := lI r0) (atI_nat (i := 0) rfl)) (je_var (n := 3) rfl) (atI_int (by rw [w0.1]; omega))) (cmul_l (by have := mem_rangeI.mp hm; omega) (by have := mem_rangeI.mp hm; omega))) (L.bl _ (by decide))) (je_var (n := 0) rfl) (by omega)) je_int)) (fun v_d hm hp => (je_var (n := 10) rfl)) (by rw [len_rangeI]; omega)) je_int (d := .int (invI p (gI r0 i))) ?_) rfl ?_
      · obtain ⟨x, a, b, c⟩ := inv_ex hp (show 0 < gI r0 i by omega) bd.2
        have hm : x ∈ (rangeI 1 p).filter fun one => decide (one * gI r0 i % p = 1) := List.mem_filter.mpr ⟨mem_rangeI.mpr ⟨a, b⟩, decide_eq_true c⟩
        refine atI_nat (i := 0) ?_
        unfold invI
        cases h : (rangeI 1 p).filter fun one => decide (one * gI r0 i % p = 1) with
        | nil => rw [h] at hm; cases hm
        | cons y l => rfl
      obtain ⟨iv1, iv2, _⟩ := invI_spec hp (show 0 < gI r0 i by omega) bd.2
      refine js_asgCell (i := 8) (je_lcm (f := fun d : Int => .int (invI p (gI r0 i) * d % p)) (own := [("_law_d", 10)]) rfl (jw_list (j := 10) (enc := PyData.int) (items := r0) (je_ixL (je_var (n := 6) rfl) je_int (d := lI r0) (atI_nat (i := 0) rfl))) (pg_nameS (j := 10)) (fun v_d hm => (je_mod (je_int1 (je_mul (je_var (n := 7) rfl) (je_var (n := 10) rfl) (cmul_l (by omega) (by omega))) (L.bl _ (by decide))) (je_var (n := 0) rfl) (by omega))) (by rw [w0.1]; omega)) (d := lI (ownI p r0 i)) ?_ ?_
      · unfold lI lstE ownI timesI
        rw [List.map_map]
        congr 1
        refine List.map_congr_left
              fun x _ => ?_
        show PyData.int _ = PyData.int _
        rw [Int.mul_comm]
      refine js_asgM (f := fun r : List Int => lI (lessI p r (gI r i) (ownI p r0 i))) (i := 4) (own := [("_law_row", 9)]) rfl (jw_list (j := 9) (enc := lstE .int) (items := st.1) (je_var (n := 4) rfl)) (pg_nameS (j := 9)) (fun v_row hm => (je_call (ok_L_less L) (by show 1 ≤ 1; decide) (ja_cons (je_var (n := 0) rfl) (ja_cons (je_var (n := 9) rfl) (ja_cons (je_var (n := 8) rfl) (ja_cons (je_ixL (je_var (n := 9) rfl) (je_var (n := 3) rfl) (atI_int (by rw [(hS.wd _ hm).1]; omega))) ja_nil)))) ⟨p, _, _, _, rfl, rfl, by omega, by rw [(hS.wd _ hm).1]; omega, by rw [ow.1, (hS.wd _ hm).1], (wd_dig hp (hS.wd _ hm)).1, (wd_dig hp (hS.wd _ hm)).2⟩)) (by omega) (d := lLI (st.1.map fun r => lessI p r (gI r i) (ownI p r0 i))) (by unfold lLI lstE; rw [List.map_map]; rfl) ?_
      refine js_asgE (i := 5) (je_cat (JE.is (je_lcm (f := fun r : List Int => lI (lessI p r (gI r i) (ownI p r0 i))) (own := [("_law_row", 9)]) rfl (jw_list (j := 9) (enc := lstE .int) (items := st.2) (je_var (n := 5) rfl)) (pg_nameS (j := 9)) (fun v_row hm => (je_call (ok_L_less L) (by show 1 ≤ 1; decide) (ja_cons (je_var (n := 0) rfl) (ja_cons (je_var (n := 9) rfl) (ja_cons (je_var (n := 8) rfl) (ja_cons (je_ixL (je_var (n := 9) rfl) (je_var (n := 3) rfl) (atI_int (by rw [(hS.red.wd _ hm).1]; omega))) ja_nil)))) ⟨p, _, _, _, rfl, rfl, by omega, by rw [(hS.red.wd _ hm).1]; omega, by rw [ow.1, (hS.red.wd _ hm).1], (wd_dig hp (hS.red.wd _ hm)).1, (wd_dig hp (hS.red.wd _ hm)).2⟩)) (by omega)) (y := .list (st.2.map fun r => lI (lessI p r (gI r i) (ownI p r0 i)))) rfl) (je_lst (ja_cons (je_var (n := 8) rfl) ja_nil) (by show 1 ≤ 1000000; decide)) (by rw [List.length_map]; show _ + 1 ≤ _; omega)) (d := lLI ((st.2.map fun r => lessI p r (gI r i) (ownI p r0 i)) ++ [ownI p r0 i])) (by unfold lLI lstE; rw [List.map_append, List.map_map]; rfl) ?_
      refine js_asgFl (pr := notZ) (f := fun r : List Int => lI r) (i := 4) (own := [("_law_row", 9)]) rfl (jw_list (j := 9) (enc := lstE .int) (items := st.1.map fun r => lessI p r (gI r i) (ownI p r0 i)) (je_var (n := 4) rfl)) (pg_nameS (j := 9)) (fun v_row hm => (jt_is (jt_neD 3 (je_lcf (pr := fun d : Int => decide (d ≠ 0)) (f := fun d : Int => .int d) (own := [("_law_d", 10)]) rfl (jw_list (j := 10) (enc := PyData.int) (items := v_row) (je_var (n := 9) rfl)) (pg_nameS (j := 10)) (fun v_d hm => (jt_neI (je_var (n := 10) rfl) je_int)) (fun v_d hm hp => (je_var (n := 10) rfl)) ?_) (je_lst ja_nil) (okD_lI 2 _) rfl) ?_)) (fun v_row hm hp => (je_var (n := 9) rfl)) (by rw [List.length_map]; omega) (d := lLI ((st.1.map fun r => lessI p r (gI r i) (ownI p r0 i)).filter notZ)) rfl (js_nil (js_nil ?_))
      · obtain ⟨r, hr, rfl⟩ := List.mem_map.mp hm
        rw [(Wd.less (p := p) (by omega) (hS.wd r hr).1 ow.1).1]
        omega
      · rw [eqv_nilL]
        unfold notZ
        cases v_row.filter fun d => decide (d ≠ 0) <;> rfl
      · rw [e, e2]
        exact ⟨_, _, _, _, _, _, rfl⟩
  · obtain ⟨u1, u2, u3, u4, u5, u6, rfl⟩ := hP
    have hlen : (rangeI 0 (((rows.headD []).length : Nat) : Int)).length = (rows.headD []).length := by rw [len_rangeI]; omega
    rw [hlen]
    have e : ((List.range (rows.headD []).length).foldl (stepS p) (rows, [])).2 = reducedI p rows := settled_eq hp hw
    have rl := red_len (reduced_red hp hw).1
    rw [e]
    refine js_retE (je_tupleL (je_lcm (f := fun r : List Int => tI r) (own := [("_law_row", 9)]) rfl (jw_list (j := 9) (enc := lstE .int) (items := reducedI p rows) (je_var (n := 5) rfl)) (pg_nameS (j := 9)) (fun v_row hm => (je_tupleL (je_var (n := 9) rfl) (L.bl _ (by decide)))) (by omega)) (L.bl _ (by decide))) rfl rfl
end
end Sh


set_option Elab.async false
set_option linter.all false
set_option maxRecDepth 100000
set_option maxHeartbeats 40000000
set_option autoImplicit false
/-! W10: _law_first, _law_back, _law_open, _law_columns_rank, _law_pattern -/
namespace Sh
open PySem PySem.Spec
      PyProof.Rows L2
def firstO (n : Nat) (early : List Nat) : List Nat := early ++ keptI n early
def backI (order : List Nat) (row : List Int) : List Int := (List.range order.length).map fun k => gI row (order.idxOf k)
def zeroTo (m : Nat) (r : List Int) : Bool := ((r.take m).filter fun d => decide (d ≠ 0)).isEmpty
def openW (p : Int) (n : Nat) (rows : List (List Int)) (lost : List Nat) : List (List Int) :=
  reducedI p (((reducedI p (rows.map (atP (firstO n (keptI n lost))))).filter (zeroTo (keptI n lost).length)).map (backI (firstO n (keptI n lost))))
def crankI (p : Int) (rows : List (List Int)) (ks : List Nat) : Nat := if ks = [] then 0 else (reducedI p (rows.map (atP ks))).length
def spanAt (p : Int) (n : Nat) (rows : List (List Int)) (k far : Nat) : Bool := decide ((crankI p rows (ringI n (k + 1) far) : Int) = crankI p rows (ringI n (k + 1) far ++ [k]))
def throwP (p : Int) (n : Nat) (rows : List (List Int)) (k : Nat) : Nat := (List.range n).reverse.foldl (fun t far => if spanAt p n rows k far then far else t) n
def patI (p : Int) (n : Nat) (rows : List (List Int)) : List Nat := (List.range n).map (throwP p n rows)
theorem nd_sub : ∀ (l1 l2 : List Nat), l1.Nodup → (∀ x ∈ l1, x ∈ l2) → l1.length ≤ l2.length
  | [], _, _, _ =>
        Nat.zero_le _
  | x :: l1, l2, nd, h => by
    obtain ⟨n1, n2⟩ := List.pairwise_cons.mp nd
    have hx := h x List.mem_cons_self
    have := nd_sub l1 (l2.erase x) n2 fun y hy => (List.mem_erase_of_ne (Ne.symm (n1 y hy))).mpr (h y (List.mem_cons_of_mem _ hy))
    rw [List.length_erase_of_mem hx] at this
    have : 0 < l2.length := List.length_pos_of_mem hx
    rw [List.length_cons]
    omega
theorem first_len {n : Nat} {early : List Nat} (nd : early.Nodup) (lt : ∀ k ∈ early, k < n) : (firstO n early).length = n ∧ (∀ k < n, k ∈ firstO n early) ∧ (∀ k ∈ firstO n early, k < n) ∧ (firstO n early).Nodup := by
  have m : ∀ k ∈ firstO n early, k < n := fun k hk => by
    rcases List.mem_append.mp hk with z | z
    · exact lt k z
    · exact List.mem_range.mp (List.mem_filter.mp z).1
  have a : ∀ k < n, k ∈ firstO n early := fun k hk => by
    by_cases q : k ∈ early
    · exact List.mem_append_left _ q
    · refine List.mem_append_right _ (List.mem_filter.mpr ⟨List.mem_range.mpr hk, ?_⟩)
      simpa using q
  have nd2 : (firstO n early).Nodup := List.nodup_append.mpr ⟨nd, List.Pairwise.filter _ List.nodup_range, fun x hx y hy e => by
    subst e
    have := (List.mem_filter.mp hy).2
    simp [hx] at this⟩
  refine ⟨?_, a, m, nd2⟩
  have h1 := nodup_lt n _ nd2 m
  have h2 : (List.range n).length ≤ (firstO n early).length := nd_sub _ _ List.nodup_range fun x hx => a x (List.mem_range.mp hx)
  rw [List.length_range] at h2
  omega
section
variable {P : Program} {w : World} {K :
      PySem.W.Frag} {mg : Str → Option Value} {base : Heap}
def R_L_first (args : List PyData) (d : PyData) : Prop := ∃ (p : Int) (n : Nat) (rows : List (List Int)) (early : List Nat), args = [bookD p (n : Nat) rows, lN early] ∧ d = .tuple [lN (firstO n early), tTI (reducedI p (rows.map (atP (firstO n early))))] ∧ isP p ∧ n ≤ 30 ∧ rows.length ≤ 60 ∧ (∀ r ∈ rows, Wd p n r) ∧ early.Nodup ∧ ∀ k ∈ early, k < n
theorem ok_L_first (L : Lib K mg fns bls) : Cal P w K mg base "_law_first" 3 (spP R_L_first) := by
  refine cal_pure (N := ["_law_book_now", "_law_early", "_law_order", "_law_base", "_law_many", "_law_rows", "_law_k", "_law_row"]) (ps := ["_law_book_now", "_law_early"]) (k := 2) L 58 rfl ⟨rfl, rfl, rfl, by decide +kernel, rfl, by decide +kernel, by decide +kernel⟩ (bind2 fun _ _ _ _ _ _ _ _ => rfl) ?_ ?_
  · rintro args d ⟨_, _, _, _, rfl, _⟩; rfl
  rintro args d ⟨p, n, rows, early, rfl, rfl, hp, hn, hl, hw, nd, lt⟩ fa
  have hp1 := hp.two
  obtain ⟨fl, fa1, fm, _⟩ := first_len nd lt
  have hk := kept_len n early
  have he := nodup_lt n _ nd lt
  refine js_unpack (js := [3, 4, 5]) (je_var (n := 0) rfl) (.one (.one (.one .nil))) rfl ?_
  refine js_asgE (i := 2) (je_cat (je_listS (je_var (n := 1) rfl) (.l _) (L.bl _ (by decide))) (je_lcf (pr := fun k : Int => !early.contains k.toNat) (f := fun k : Int => .int k) (own := [("_law_k", 6)]) rfl (jw_range1 (j := 6) (je_var (n := 4) rfl) (L.bl _ (by decide)) (by omega)) (pg_nameS (j := 6)) (fun v_k hm => (jt_is (jt_notIn (je_var (n := 6) rfl) (je_var (n := 1) rfl) (.l _) rfl flat_nats) ?_)) (fun v_k hm hp => (je_var (n := 6) rfl)) (by rw [len_rangeI]; omega)) ?_) (d := lN (firstO n early)) ?_ ?_
  · obtain ⟨k, rfl, hk⟩ := range_nat hm
    rw [any_eqv_int]
    rfl
  · rw [filt_range, List.length_map, List.length_map]
    have : ((List.range n).filter fun k : Nat => !early.contains ((k : Nat) : Int).toNat).length ≤ n := hk
    omega
  · rw [filt_range]
    unfold lN lstE firstO keptI
    rw [List.map_append]
    rfl
  refine js_retE (je_tup (ja_cons (je_var (n := 2) rfl) (ja_cons (je_call (ok_L_settled L) (by show 2 ≤ 2; decide) (ja_cons (je_var (n := 3) rfl) (ja_cons (JE.is (je_lcm (f := fun r : List Int => lI (atP (firstO n early) r)) (own := [("_law_row", 7)]) rfl (jw_tup (j := 7) (enc := tupE .int) (items := rows) (je_var (n := 5) rfl)) (pg_nameS (j := 7)) (fun v_row hm => JE.is (je_lcm (f := fun k : Nat => .int (gI v_row k)) (own := [("_law_k", 6)]) rfl (jw_list (j := 6) (enc := fun k : Nat => .int (k : Nat)) (items := firstO n early) (je_var (n := 2) rfl)) (pg_nameS (j := 6)) (fun v_k hm2 => (je_ixT (je_var (n := 7) rfl) (je_var (n := 6) rfl) (atI_int (by rw [(hw _ hm).1]; exact fm _ hm2)))) (by omega)) (by unfold lI lstE atP; rw [List.map_map]; rfl)) (by omega)) (y := lLI (rows.map (atP (firstO n early)))) (by unfold lLI lstE; rw [List.map_map]; rfl)) ja_nil))
    ⟨p, n, _, lstE PyData.int, rfl, rfl, hp, by omega, by rw [List.length_map]; omega, fun x hx => ?_, .inl rfl⟩) ja_nil)) (by show 2 ≤ 1000000; decide)) rfl rfl
  obtain ⟨r, hr, rfl⟩ := List.mem_map.mp hx
  have := atP_wd (p := p) (by omega) (hw r hr) (firstO n early)
  rw [fl] at this
  exact this
def R_L_back (args : List PyData) (d : PyData) : Prop := ∃ (order : List Nat) (row : List Int) (enc : List Int → PyData), args = [lN order, enc row] ∧ d = tI (backI order row) ∧ order.length ≤ 1000 ∧ row.length = order.length ∧ (∀ k < order.length, k ∈ order) ∧ (enc = lstE PyData.int ∨ enc = tupE PyData.int)
theorem ok_L_back (L : Lib K mg fns bls) : Cal P w K mg base "_law_back" 1 (spP R_L_back) := by
  refine cal_pure (N := ["_law_order", "_law_row", "_law_k"]) (ps := ["_law_order", "_law_row"]) (k := 0) L 59 rfl ⟨rfl, rfl, rfl, by decide +kernel, rfl, by decide +kernel, by decide +kernel⟩ (bind2 fun _ _ _ _ _ _ _ _ => rfl) ?_ ?_
  · rintro args d ⟨_, _, _, rfl, _⟩; rfl
  rintro args d ⟨order, row, enc, rfl, rfl, hl, hr, hk, henc⟩ fa
  refine js_retE (je_tupleL (je_lcm (f := fun k : Int => .int (gI row (order.idxOf k.toNat))) (own := [("_law_k", 2)]) rfl (jw_range1 (j := 2) (JE.is (je_len (je_var (n := 0) rfl) (.l _) (L.bl _ (by decide))) (y := .int (order.length : Nat)) (by rw [List.length_map])) (L.bl _ (by decide)) (by omega)) (pg_nameS (j := 2)) (fun v_k hm => ?_) (by rw [len_rangeI]; omega)) (L.bl _ (by decide))) ?_ rfl
  · obtain ⟨k, rfl, hlt⟩ := range_nat hm
    have hi : order.idxOf k < order.length := List.idxOf_lt_length_iff.mpr (hk k hlt)
    have h1 : (order.map fun k : Nat => PyData.int (k : Nat))[order.idxOf k]? = some (.int (k : Nat)) := by
      rw [List.getElem?_map, List.getElem?_eq_getElem hi, List.getElem_idxOf hi]
      rfl
    have h2 : PyData.eqv (.int (k : Nat)) (.int (k : Nat)) = true := by
      show ((k : Int) == (k : Int)) = true
      simp
    have h3 : ∀ m z, m < order.idxOf k → (order.map fun k : Nat => PyData.int (k : Nat))[m]? = some z → PyData.eqv z (.int (k : Nat)) = false := fun m z hm1 hz => by
      rw [List.getElem?_map] at hz
      have hml : m < order.length := by omega
      rw [List.getElem?_eq_getElem hml] at hz
      cases hz
      show (((order[m] : Nat) : Int) == (k : Int)) = false
      have := List.not_of_lt_findIdx (p := (· == k)) (xs := order) (i := m) hm1
      simp at this ⊢
      omega
    rcases henc with rfl | rfl
    · exact je_ixL (je_var (n := 1) rfl) (je_index (jj := order.idxOf k) (w := .int (k : Nat)) (je_var (n := 0) rfl) (je_var (n := 2) rfl) flat_nats rfl h1 h2 h3) (atI_int (by omega))
    · exact je_ixT (je_var (n := 1) rfl) (je_index (jj := order.idxOf k) (w := .int (k : Nat)) (je_var (n := 0) rfl) (je_var (n := 2) rfl) flat_nats rfl h1 h2 h3) (atI_int (by omega))
  · rw [map_range]
    unfold tI tupE backI
    rw [List.map_map]
    rfl
end
end Sh


set_option Elab.async false
set_option linter.all false
set_option maxRecDepth 100000
set_option maxHeartbeats 40000000
set_option autoImplicit false
/-! W11: _law_open, _law_columns_rank, _law_pattern -/
namespace Sh
open PySem PySem.Spec
      PyProof.Rows L2
theorem kept_nd (n : Nat) (ps : List Nat) : (keptI n ps).Nodup := List.Pairwise.filter _ List.nodup_range
theorem kept_lt {n k : Nat} {ps : List Nat} (h : k ∈ keptI n ps) : k < n := List.mem_range.mp (List.mem_filter.mp h).1
theorem perm_wd {p : Int} {n : Nat} {rows : List (List Int)} {early : List Nat} (hp : 0 < p) (hw : ∀ r ∈ rows, Wd p n r) (nd : early.Nodup) (lt : ∀ k ∈ early, k < n) : ∀ x ∈ rows.map (atP (firstO n early)), Wd p n x := fun x hx => by
  obtain ⟨r, hr, rfl⟩ := List.mem_map.mp hx
  have := atP_wd (p := p) hp (hw r hr) (firstO n early)
  rw [(first_len nd lt).1] at this
  exact this
theorem back_wd {p : Int} {n : Nat} {order : List Nat} {row : List Int} (hp : 0 < p) (ho : order.length = n) (hk : ∀ k < n, k ∈ order) (hw : Wd p n row) : Wd p n (backI order row) := by
  refine ⟨by unfold backI; rw [List.length_map, List.length_range, ho], fun x hx => ?_⟩
  obtain ⟨k, h1, rfl⟩ := List.mem_map.mp hx
  have := List.idxOf_lt_length_iff.mpr (hk k (by rw [← ho]; exact List.mem_range.mp h1))
  exact hw.get (by omega) hp
section
variable {P : Program} {w : World} {K :
      PySem.W.Frag} {mg : Str → Option Value} {base : Heap}
def R_L_open (args : List PyData) (d : PyData) : Prop := ∃ (p : Int) (n : Nat) (rows : List (List Int)) (lost : List Nat), args = [bookD p (n : Nat) rows, lN lost] ∧ d = bookD p (n : Nat) (openW p n rows lost) ∧ isP p ∧ n ≤ 30 ∧ rows.length ≤ 60 ∧ (∀ r ∈ rows, Wd p n r)
theorem ok_L_open (L : Lib K mg fns bls) : Cal P w K mg base "_law_open" 4 (spP R_L_open) := by
  refine cal_pure (N := ["_law_book_now", "_law_lost_now", "_law_kept", "_law_some", "_law_base", "_law_many", "_law_rows", "_law_order", "_law_found", "_law_k", "_law_row", "_law_d"]) (ps := ["_law_book_now", "_law_lost_now"]) (k := 3) L 60 rfl ⟨rfl, rfl, rfl, by decide +kernel, rfl, by decide +kernel, by decide +kernel⟩ (bind2 fun _ _ _ _ _ _ _ _ => rfl) ?_ ?_
  · rintro args d ⟨_, _, _, _, rfl, _⟩; rfl
  rintro args d ⟨p, n, rows, lost, rfl, rfl, hp, hn, hl, hw⟩ fa
  have hp1 := hp.two
  have knd := kept_nd n lost
  have klt : ∀ k ∈ keptI n lost, k < n := fun k hk => kept_lt hk
  have kle := kept_len n lost
  obtain ⟨fl, fa1, fm, fnd⟩ := first_len knd klt
  have pw := perm_wd (p := p) (by omega) hw knd klt
  obtain ⟨fR, _, _, _⟩ := reduced_red hp pw
  have frl := red_len fR
  refine js_unpack (js := [4, 5, 6]) (je_var (n := 0) rfl) (.one (.one (.one .nil))) rfl ?_
  refine js_asgCell (i := 2) (je_lcf (pr := fun k : Int => !lost.contains k.toNat) (f := fun k : Int => .int k) (own := [("_law_k", 9)]) rfl (jw_range1 (j := 9) (je_var (n := 5) rfl) (L.bl _ (by decide)) (by omega)) (pg_nameS (j := 9)) (fun v_k hm => (jt_is (jt_notIn (je_var (n := 9) rfl) (je_var (n := 1) rfl) (.l _) rfl flat_nats) ?_)) (fun v_k hm hp => (je_var (n := 9) rfl)) (by rw [len_rangeI]; omega)) (d := lN (keptI n lost)) ?_ ?_
  · obtain ⟨k, rfl, hk⟩ := range_nat hm
    rw [any_eqv_int]
    rfl
  · rw [filt_range]
    rfl
  refine js_unpack (js := [7, 8]) (xs := [lN (firstO n (keptI n lost)), tTI (reducedI p (rows.map (atP (firstO n (keptI n lost)))))]) (je_call (ok_L_first L) (by show 3 ≤ 3; decide) (ja_cons (je_var (n := 0) rfl) (ja_cons (je_var (n := 2) rfl) ja_nil)) ⟨p, n, rows, _, rfl, rfl, hp, hn, hl, hw, knd, klt⟩) (.one (.one .nil)) rfl ?_
  refine js_asgFl (pr := zeroTo (keptI n lost).length) (f := fun r : List Int => tI (backI (firstO n (keptI n lost)) r)) (i := 3) (own := [("_law_row", 10)]) rfl (jw_tup (j := 10) (enc := tupE .int) (items := reducedI p (rows.map (atP (firstO n (keptI n lost))))) (je_var (n := 8) rfl)) (pg_nameS (j := 10)) (fun v_row hm => (jt_is (jt_eqD 3 (je_lcf (pr := fun d : Int => decide (d ≠ 0)) (f := fun d : Int => .int d) (own := [("_law_d", 11)]) rfl (jw_tup (j := 11) (enc := PyData.int) (items := v_row.take (keptI n lost).length) (JE.is (je_slTo (je_var (n := 10) rfl) (JE.is (je_len (je_var (n := 2) rfl) (.l _) (L.bl _ (by decide))) (y := .int ((keptI n lost).length : Nat)) (by rw [List.length_map]))) sl_to)) (pg_nameS (j := 11)) (fun v_d hm => (jt_neI (je_var (n := 11) rfl) je_int)) (fun v_d hm hp => (je_var (n := 11) rfl)) (by rw [List.length_take]; omega)) (je_lst ja_nil) (okD_lI 2 _) rfl) ?_)) (fun v_row hm hp => (je_call (ok_L_back L) (by show 1 ≤ 3; decide) (ja_cons (je_var (n := 7) rfl) (ja_cons (je_var (n := 10) rfl) ja_nil)) ⟨_, _, tupE PyData.int, rfl, rfl, by omega, by rw [(fR.wd _ hm).1, fl], fun k hk => fa1 k (by omega), .inr rfl⟩)) (by omega)
    (d := lTI (((reducedI p (rows.map (atP (firstO n (keptI n lost))))).filter (zeroTo (keptI n lost).length)).map (backI (firstO n (keptI n lost))))) ?_ ?_
  · rw [eqv_nilL]
    unfold zeroTo
    cases (v_row.take (keptI n lost).length).filter fun d => decide (d ≠ 0) <;> rfl
  · unfold lTI lstE
    rw [List.map_map]
    rfl
  refine js_retE (je_tup (ja_cons (je_var (n := 4) rfl) (ja_cons (je_var (n := 5) rfl) (ja_cons (je_call (ok_L_settled L) (by show 2 ≤ 3; decide) (ja_cons (je_var (n := 4) rfl) (ja_cons (je_var (n := 3) rfl) ja_nil)) ⟨p, n, _, tupE PyData.int, rfl, rfl, hp, by omega, ?_, fun x hx => ?_, .inr rfl⟩) ja_nil))) (by show 3 ≤ 1000000; decide)) rfl rfl
  · rw [List.length_map]
    exact Nat.le_trans (List.length_filter_le _ _) (by omega)
  · obtain ⟨r, hr, rfl⟩ := List.mem_map.mp hx
    exact back_wd (by omega) fl fa1 (fR.wd r (List.mem_filter.mp hr).1)
def R_L_columns_rank (args : List PyData) (d : PyData) : Prop := ∃ (p : Int) (n : Nat) (rows : List (List Int)) (ks : List Nat), args = [bookD p (n : Nat) rows, lN ks] ∧ d = .int (crankI p rows ks : Nat) ∧ isP p ∧ n ≤ 30 ∧ rows.length ≤ 60 ∧ (∀ r ∈ rows, Wd p n r) ∧ ks.length ≤ 60 ∧ ∀ k ∈ ks, k < n
theorem ok_L_columns_rank (L : Lib K mg fns bls) : Cal P w K mg base "_law_columns_rank" 3 (spP R_L_columns_rank) := by
  refine cal_pure (N := ["_law_book_now", "_law_some", "_law_base", "_law_many", "_law_rows", "_law_row", "_law_k"]) (ps := ["_law_book_now", "_law_some"]) (k := 2) L 62 rfl ⟨rfl, rfl, rfl, by decide +kernel, rfl, by decide +kernel, by decide +kernel⟩ (bind2 fun _ _ _ _ _ _ _ _ => rfl) ?_ ?_
  · rintro args d ⟨_, _, _, _, rfl, _⟩; rfl
  rintro args d ⟨p, n, rows, ks, rfl, rfl, hp, hn, hl, hw, hk, hlt⟩ fa
  have hp1 := hp.two
  have okn : okD 3 (lN ks) = true := by
    show (ks.map fun k : Nat => PyData.int (k : Nat)).all (okD 2) = true
    rw [List.all_map]
    exact List.all_eq_true.mpr
          fun _ _ => rfl
  refine js_unpack (js := [2, 3, 4]) (je_var (n := 0) rfl) (.one (.one (.one .nil))) rfl ?_
  refine js_iff (k := decide (ks = [])) (jt_is (jt_eqD 3 (je_var (n := 1) rfl) (je_lst ja_nil) okn rfl) ?_) (fun hc => ?_) fun hc => js_nil ?_
  · rw [show lN ks = PyData.list _ from rfl, eqv_nilL]
    cases ks <;> rfl
  · refine js_retE je_int ?_ rfl
    unfold crankI
    rw [if_pos (of_decide_eq_true hc)]
    rfl
  · refine js_retE (je_len (je_call (ok_L_settled L) (by show 2 ≤ 2; decide) (ja_cons (je_var (n := 2) rfl) (ja_cons (JE.is (je_lcm (f := fun r : List Int => lI (atP ks r)) (own := [("_law_row", 5)]) rfl (jw_tup (j := 5) (enc := tupE .int) (items := rows) (je_var (n := 4) rfl)) (pg_nameS (j := 5)) (fun v_row hm => JE.is (je_lcm (f := fun k : Nat => .int (gI v_row k)) (own := [("_law_k", 6)]) rfl (jw_list (j := 6) (enc := fun k : Nat => .int (k : Nat)) (items := ks) (je_var (n := 1) rfl)) (pg_nameS (j := 6)) (fun v_k hm2 => (je_ixT (je_var (n := 5) rfl) (je_var (n := 6) rfl) (atI_int (by rw [(hw _ hm).1]; exact hlt _ hm2)))) (by omega)) (by unfold lI lstE atP; rw [List.map_map]; rfl)) (by omega)) (y := lLI (rows.map (atP ks))) (by unfold lLI lstE; rw [List.map_map]; rfl)) ja_nil))
      ⟨p, ks.length, _, lstE PyData.int, rfl, rfl, hp, by omega, by rw [List.length_map]; omega, fun x hx => ?_, .inl rfl⟩) (.t _) (L.bl _ (by decide))) ?_ rfl
    · obtain ⟨r, hr, rfl⟩ := List.mem_map.mp hx
      exact atP_wd (by omega) (hw r hr) ks
    · rw [List.length_map]
      unfold crankI
      rw [if_neg (of_decide_eq_false hc)]
end
end Sh


set_option Elab.async false
set_option linter.all false
set_option maxRecDepth 100000
set_option maxHeartbeats 40000000
set_option autoImplicit false
/-! W12: _law_pattern -/
namespace Sh
open PySem PySem.Spec
      PyProof.Rows L2
theorem rangeD_nat (n : Nat) : rangeD ((n : Int) - 1) (-1) = (List.range n).reverse.map fun k : Nat => (k : Int) := by
  unfold rangeD
  have e : (((n : Int) - 1) - -1).toNat = n := by omega
  rw [e]
  apply List.ext_getElem
  · simp
  · intro i h1 h2
    simp at h1 h2 ⊢
    omega
section
variable {P : Program} {w : World} {K :
      PySem.W.Frag} {mg : Str → Option Value} {base : Heap}
def R_L_pattern (args : List PyData) (d : PyData) : Prop := ∃ (p : Int) (n : Nat) (rows : List (List Int)), args = [bookD p (n : Nat) rows] ∧ d = tN (patI p n rows) ∧ isP p ∧ 0 < n ∧ n ≤ 30 ∧ rows.length ≤ 60 ∧ (∀ r ∈ rows, Wd p n r)
theorem ok_L_pattern (L : Lib K mg fns bls) : Cal P w K mg base "_law_pattern" 4 (spP R_L_pattern) := by
  refine cal_pure (N := ["_law_book_now", "_law_k", "_law_many", "_law_found", "_law_throw_now", "_law_far", "_law_near"]) (ps := ["_law_book_now"]) (k := 3) L 63 rfl ⟨rfl, rfl, rfl, by decide +kernel, rfl, by decide +kernel, by decide +kernel⟩ (bind1 fun _ _ _ _ _ _ _ => rfl) ?_ ?_
  · rintro args d ⟨_, _, _, rfl, _⟩; rfl
  rintro args d ⟨p, n, rows, rfl, rfl, hp, hn0, hn, hl, hw⟩ fa
  refine js_parEN (i := 2) (j := 3) (je_ixT (je_var (n := 0) rfl) je_int (d := .int (n : Nat)) rfl) (jn_lst ja_nil) ?_
  refine js_forM (P := fun i ds' => ∃ a b c e, ds' = [.val (bookD p (n : Nat) rows), a, .val (.int (n : Nat)), .own (((List.range n).take i).map fun k => .int (throwP p n rows k : Nat)), b, c, e])
    (jw_range1 (j := 1) (je_var (n := 2) rfl) (L.bl _ (by decide)) (by omega)) (pg_nameS (j := 1)) ⟨_, _, _, _, rfl⟩ (fun i a ds' hi hP => ?_) fun ds' hP => ?_
  · obtain ⟨u1, u2, u3, u4, rfl⟩ := hP
    obtain ⟨rfl, hin⟩ := rangeI_at hi
    refine js_asgE (i := 4) (je_var (n := 2) rfl) (d := .int (n : Nat)) rfl ?_
    refine js_forM (P := fun m ds' => ∃ b c, ds' = [.val (bookD p (n : Nat) rows), .val (.int (i : Nat)), .val (.int (n : Nat)), .own (((List.range n).take i).map fun k => .int (throwP p n rows k : Nat)), .val (.int (((List.range n).reverse.take m).foldl (fun t far => if spanAt p n rows i far then far else t) n : Nat)), b, c])
      (jw_range3 (j := 5) (je_sub (je_var (n := 2) rfl) je_int) (je_neg je_int) (L.bl _ (by decide)) ⟨by omega, by omega, by omega, by omega⟩) (pg_nameS (j := 5)) ⟨_, _, rfl⟩ (fun m a ds' hi2 hP => ?_) fun ds' hP => ?_
    · obtain ⟨v1, v2, rfl⟩ := hP
      rw [rangeD_nat, List.getElem?_map] at hi2
      cases q : (List.range n).reverse[m]? with
      | none => rw [q] at hi2; cases hi2
      | some far =>
        rw [q] at hi2
        cases hi2
        have hfar : far < n := List.mem_range.mp (List.mem_reverse.mp (List.mem_of_getElem? q))
        have hlr : (ringI n (i + 1) far).length = far := by unfold ringI; rw [List.length_map, List.length_range]
        have hll : ∀ k ∈ ringI n (i + 1) far, k < n := fun k hk => ring_lt hn0 hk
        refine js_asgE (i := 6) (je_call (ok_L_places L) (by show 1 ≤ 3; decide) (ja_cons (je_var (n := 2) rfl) (ja_cons (je_add (je_var (n := 1) rfl) je_int) (ja_cons (je_var (n := 5) rfl) ja_nil))) ⟨n, i + 1, far, rfl, rfl, hn0, by omega⟩) rfl ?_
        have st : ((List.range n).reverse.take (m + 1)).foldl (fun t far => if spanAt p n rows i far then far else t) n = if spanAt p n rows i far then far else ((List.range n).reverse.take m).foldl (fun t far => if spanAt p n rows i far then far else t) n := by
          rw [take_snoc q, List.foldl_append]
          rfl
        refine js_iff (k := spanAt p n rows i far) (jt_eqI (je_call (ok_L_columns_rank L) (by show 3 ≤ 3; decide) (ja_cons (je_var (n := 0) rfl) (ja_cons (je_var (n := 6) rfl) ja_nil)) ⟨p, n, rows, _, rfl, rfl, hp, hn, hl, hw, by omega, hll⟩) (je_call (ok_L_columns_rank L) (by show 3 ≤ 3; decide) (ja_cons (je_var (n := 0) rfl) (ja_cons (JE.is (je_cat (je_var (n := 6) rfl) (je_lst (ja_cons (je_var (n := 1) rfl) ja_nil) (by show 1 ≤ 1000000; decide)) (by rw [List.length_map, hlr]; show far + 1 ≤ _; omega)) (y := lN (ringI n (i + 1) far ++ [i])) (by unfold lN lstE; rw [List.map_append]; rfl)) ja_nil)) ⟨p, n, rows, _, rfl, rfl, hp, hn, hl, hw, by rw [List.length_append, hlr]; show far + 1 ≤ _; omega, fun k hk => ?_⟩)) (fun hc => ?_) fun hc => ?_
        · rcases List.mem_append.mp hk with z | z
          · exact hll k z
          · rw [List.mem_singleton.mp z]; exact hin
        · refine js_asgE (i := 4) (je_var (n := 5) rfl) (d := .int (far : Nat)) rfl (js_nil (js_nil ?_))
          rw [st, if_pos hc]
          exact ⟨_, _, rfl⟩
        · refine js_nil (js_nil ?_)
          rw [st, if_neg (by rw [hc]; decide)]
          exact ⟨_, _, rfl⟩
    · obtain ⟨v1, v2, rfl⟩ := hP
      have e : (rangeD ((n : Int) - 1) (-1)).length = ((List.range n).reverse).length := by rw [rangeD_nat, List.length_map]
      rw [e, List.take_length]
      refine js_append (i := 3) rfl (je_var (n := 4) rfl) (by rw [List.length_map, List.length_take, List.length_range]; omega) (js_nil ?_)
      have e2 : (List.range n).take (i + 1) = (List.range n).take i ++ [i] := take_snoc (by rw [List.getElem?_range hin])
      rw [e2, List.map_append]
      exact ⟨_, _, _, _, rfl⟩
  · obtain ⟨u1, u2, u3, u4, rfl⟩ := hP
    have e : (rangeI 0 (n : Int)).length = (List.range n).length := by rw [len_rangeI, List.length_range]; omega
    rw [e, List.take_length]
    refine js_retE (je_tupleO (n := 3) rfl (L.bl _ (by decide))) ?_ rfl
    unfold tN tupE patI
    rw [List.map_map]
    rfl
end
end Sh


set_option Elab.async false
set_option linter.all false
set_option maxRecDepth 100000
set_option maxHeartbeats 40000000
set_option autoImplicit false
/-! W13: _law_sum, _law_is_torn_right, _law_is_word, _law_is_lost_right -/
namespace Sh
open PySem PySem.Spec
      PyProof.Rows L2
def dotI (p : Int) (a b : List Int) : Int := ((List.range a.length).map fun k => gI a k * gI b k).sum % p
def told0 (ds : List (Option Int)) : List Int := ds.map fun o => o.getD 0
theorem shown_in {p d : Int} (h0 : 0 ≤ d) (h1 : d < p) : (((rangeI 0 p).map fun k : Int => PyData.str (PyData.int k).shown).any fun z => PyData.eqv z (.str (PyData.int d).shown)) = true := by
  refine List.any_eq_true.mpr ⟨_, List.mem_map.mpr ⟨d, mem_rangeI.mpr ⟨h0, h1⟩, rfl⟩, ?_⟩
  simp [PyData.eqv]
theorem filt_none {α : Type} (l : List α) : l.filter (fun _ => false) = [] := List.filter_eq_nil_iff.mpr fun _ _ => by decide
theorem flat_strs {p : Int} : ((rangeI 0 p).map fun k : Int => PyData.str (PyData.int k).shown).all flatD = true := by
  rw [List.all_map]
  exact List.all_eq_true.mpr
        fun _ _ => rfl
section
variable {P : Program} {w : World} {K :
      PySem.W.Frag} {mg : Str → Option Value} {base : Heap}
def R_L_sum (args : List PyData) (d : PyData) : Prop := ∃ (p : Int) (a b : List Int) (enc : List Int → PyData), args = [.int p, enc a, tI b] ∧ d = .int (dotI p a b) ∧ 0 < p ∧ a.length ≤ 1000 ∧ a.length ≤ b.length ∧ (∀ x ∈ a, -1000 ≤ x ∧ x ≤ 1000) ∧ (enc = lstE PyData.int ∨ enc = tupE PyData.int)
theorem ok_L_sum (L : Lib K mg fns bls) : Cal P w K mg base "_law_sum" 1 (spP R_L_sum) := by
  refine cal_pure (N := ["_law_base", "_law_one", "_law_other", "_law_k"]) (ps := ["_law_base", "_law_one", "_law_other"]) (k := 0) L 70 rfl ⟨rfl, rfl, rfl, by decide +kernel, rfl, by decide +kernel, by decide +kernel⟩ (bind3 fun _ _ _ _ _ _ _ _ _ => rfl) ?_ ?_
  · rintro args d ⟨_, _, _, _, rfl, _⟩; rfl
  rintro args d ⟨p, a, b, enc, rfl, rfl, hp, hl, hlb, hb, henc⟩ fa
  have bd : ∀ k < a.length, -1000 ≤ gI a k ∧ gI a k ≤ 1000 := fun k hk => hb _ (List.mem_of_getElem? (gI_get hk))
  have fin : PyData.list ((rangeI 0 (a.length : Int)).map fun k : Int => PyData.int (gI a k.toNat * gI b k.toNat)) = lstE PyData.int ((List.range a.length).map fun k => gI a k * gI b k) := by
    rw [map_range]
    unfold lstE
    rw [List.map_map]
    rfl
  rcases henc with rfl | rfl
  · exact js_retE (je_mod (je_int1 (je_sumL (ns := (List.range a.length).map fun k => gI a k * gI b k) (JE.is (je_lcm (f := fun k : Int => .int (gI a k.toNat * gI b k.toNat)) (own := [("_law_k", 3)]) rfl (jw_range1 (j := 3) (JE.is (je_len (je_var (n := 1) rfl) (.l _) (L.bl _ (by decide))) (y := .int (a.length : Nat)) (by rw [List.length_map])) (L.bl _ (by decide)) (by omega)) (pg_nameS (j := 3)) (fun v_k hm => by
      obtain ⟨k, rfl, hk⟩ := range_nat hm
      exact je_mul (je_ixL (je_var (n := 1) rfl) (je_var (n := 3) rfl) (atI_int hk)) (je_ixT (je_var (n := 2) rfl) (je_var (n := 3) rfl) (atI_int (by omega))) (cmul_l (by have := bd k hk; show -1000000 ≤ gI a k; omega) (by have := bd k hk; show gI a k ≤ 1000000; omega))) (by rw [len_rangeI]; omega)) fin) (L.bl _ (by decide))) (L.bl _ (by decide))) (je_var (n := 0) rfl) hp) rfl rfl
  · exact js_retE (je_mod (je_int1 (je_sumL (ns := (List.range a.length).map fun k => gI a k * gI b k) (JE.is (je_lcm (f := fun k : Int => .int (gI a k.toNat * gI b k.toNat)) (own := [("_law_k", 3)]) rfl (jw_range1 (j := 3) (JE.is (je_len (je_var (n := 1) rfl) (.t _) (L.bl _ (by decide))) (y := .int (a.length : Nat)) (by rw [List.length_map])) (L.bl _ (by decide)) (by omega)) (pg_nameS (j := 3)) (fun v_k hm => by
      obtain ⟨k, rfl, hk⟩ := range_nat hm
      exact je_mul (je_ixT (je_var (n := 1) rfl) (je_var (n := 3) rfl) (atI_int hk)) (je_ixT (je_var (n := 2) rfl) (je_var (n := 3) rfl) (atI_int (by omega))) (cmul_l (by have := bd k hk; show -1000000 ≤ gI a k; omega) (by have := bd k hk; show gI a k ≤ 1000000; omega))) (by rw [len_rangeI]; omega)) fin) (L.bl _ (by decide))) (L.bl _ (by decide))) (je_var (n := 0) rfl) hp) rfl rfl
def R_L_is_word (args : List PyData) (d : PyData) : Prop := ∃ (p : Int) (n : Nat) (rows : List (List Int)) (r : List Int), args = [bookD p (n : Nat) rows, tI r] ∧ d = .bool true ∧ isP p ∧ n ≤ 30 ∧ rows.length ≤ 60 ∧ (∀ r ∈ rows, Wd p n r) ∧ Wd p n r ∧ (reducedI p (rows ++ [r])).length = rows.length
theorem ok_L_is_word (L : Lib K mg fns bls) : CalG P w K mg base "_law_is_word" 3 (spP R_L_is_word) := by
  refine cal_pureG (N := ["_law_book_now", "_law_row", "_law_base", "_law_many", "_law_rows", "_law_d", "_law_k", "_law_one"]) (ps := ["_law_book_now", "_law_row"]) (k := 2) L 72 rfl ⟨rfl, rfl, rfl, by decide +kernel, rfl, by decide +kernel, by decide +kernel⟩ (bind2 fun _ _ _ _ _ _ _ _ => rfl) ?_ ?_
  · rintro args d ⟨_, _, _, _, rfl, _⟩; rfl
  rintro args d ⟨p, n, rows, r, rfl, rfl, hp, hn, hl, hw, hr, hlen⟩ fa
  have hp1 := hp.two
  have hp2 := hp.le
  refine js_unpack (js := [2, 3, 4]) (je_var (n := 0) rfl) (.one (.one (.one .nil))) rfl ?_
  refine js_ifNo (jt_or2 (jt_not (jt_val (je_isi (T := "tuple") (je_var (n := 1) rfl) (kit_tuple _) (L.bl _ (by decide)) (L.bl _ (by decide)) (by decide +kernel)))) fun _ => (jt_neI (je_len (je_var (n := 1) rfl) (.t _) (L.bl _ (by decide))) (je_var (n := 3) rfl))) ?_ ?_
  · rw [List.length_map, hr.1]
    simp [isTupD]
    rfl
  refine js_ifNo (k := false) (jt_is (jt_neD 3 (je_lcf (pr := fun _ => false) (f := fun d : Int => .int d) (own := [("_law_d", 5)]) rfl (jw_tup (j := 5) (enc := PyData.int) (items := r) (je_var (n := 1) rfl)) (pg_nameS (j := 5)) (fun v_d hm => ?_) (fun v_d hm hp => (je_var (n := 5) rfl)) (by rw [hr.1]; omega)) (je_lst ja_nil) (by rw [filt_none]; rfl) rfl) (by rw [filt_none]; rfl)) rfl ?_
  · have hd := hr.2 v_d hm
    refine jt_is (jt_notIn (ys := (rangeI 0 p).map fun k : Int => .str (PyData.int k).shown) (je_repr 3 rfl (je_var (n := 5) rfl) (d := .int v_d) (by exact decide_eq_true (by omega)) (by decide) (L.bl _ (by decide))) ?_ (.l _) rfl flat_strs) (by rw [shown_in hd.1 hd.2]; rfl)
    exact je_lcm (f := fun k : Int => .str (PyData.int k).shown) (own := [("_law_k", 6)]) rfl (jw_range1 (j := 6) (je_var (n := 2) rfl) (L.bl _ (by decide)) (by omega)) (pg_nameS (j := 6)) (fun v_k hm2 => (je_repr 3 rfl (je_var (n := 6) rfl) (d := .int v_k) (by have := mem_rangeI.mp hm2; exact decide_eq_true (by omega)) (by decide) (L.bl _ (by decide)))) (by rw [len_rangeI]; omega)
  refine js_retE (je_eqI (JE.is (je_len (je_call (ok_L_settled L) (by show 2 ≤ 2; decide) (ja_cons (je_var (n := 2) rfl) (ja_cons (JE.is (je_cat (je_lcm (f := fun r : List Int => lI r) (own := [("_law_one", 7)]) rfl (jw_tup (j := 7) (enc := tupE .int) (items := rows) (je_var (n := 4) rfl)) (pg_nameS (j := 7)) (fun v_one hm => (je_listS (je_var (n := 7) rfl) (.t _) (L.bl _ (by decide)))) (by omega)) (je_lst (ja_cons (je_listS (je_var (n := 1) rfl) (.t _) (L.bl _ (by decide))) ja_nil) (by show 1 ≤ 1000000; decide)) (by rw [List.length_map]; show _ + 1 ≤ _; omega)) (y := lLI (rows ++ [r])) (by unfold lLI lstE; rw [List.map_append]; rfl)) ja_nil)) ⟨p, n, _, lstE PyData.int, rfl, rfl, hp, by omega, by rw [List.length_append]; show _ + 1 ≤ _; omega, fun x hx => ?_, .inl rfl⟩) (.t _) (L.bl _ (by decide))) (y := .int ((reducedI p (rows ++ [r])).length : Nat)) (by rw [List.length_map])) (JE.is (je_len (je_var (n := 4) rfl) (.t _) (L.bl _ (by decide))) (y := .int (rows.length : Nat)) (by rw [List.length_map]))) ?_ rfl
  · rcases List.mem_append.mp hx with z | z
    · exact hw x z
    · rw [List.mem_singleton.mp z]; exact hr
  · rw [hlen]
    simp
end
end Sh


set_option Elab.async false
set_option linter.all false
set_option maxRecDepth 100000
set_option maxHeartbeats 40000000
set_option autoImplicit false
/-! W14: _law_is_torn_right, _law_is_lost_right -/
namespace Sh
open PySem PySem.Spec
      PyProof.Rows L2
section
variable {P : Program} {w : World} {K :
      PySem.W.Frag} {mg : Str → Option Value} {base : Heap}
def R_L_is_lost_right (args : List PyData) (d : PyData) : Prop := ∃ (p : Int) (n : Nat) (rows : List (List Int)) (ds : List (Option Int)) (r : List Int), args = [bookD p (n : Nat) rows, dgl ds, tI r] ∧ d = .bool true ∧ isP p ∧ n ≤ 30 ∧ rows.length ≤ 60 ∧ (∀ r ∈ rows, Wd p n r) ∧ Wd p n r ∧ (reducedI p (rows ++ [r])).length = rows.length ∧ ds.length = n ∧ notZ r = true ∧ ∀ k ∈ heldI ds, gI r k = 0
theorem ok_L_is_lost_right (L : Lib K mg fns bls) : CalG P w K mg base "_law_is_lost_right" 4 (spP R_L_is_lost_right) := by
  refine cal_pureG (N := ["_law_book_now", "_law_digits_now", "_law_within", "_law_k", "_law_d"]) (ps := ["_law_book_now", "_law_digits_now", "_law_within"]) (k := 3) L 73 rfl ⟨rfl, rfl, rfl, by decide +kernel, rfl, by decide +kernel, by decide +kernel⟩ (bind3 fun _ _ _ _ _ _ _ _ _ => rfl) ?_ ?_
  · rintro args d ⟨_, _, _, _, _, rfl, _⟩; rfl
  rintro args d ⟨p, n, rows, ds, r, rfl, rfl, hp, hn, hl, hw, hr, hlen, hdn, hnz, hz⟩ fa
  refine js_ifNo (k := false) (jt_is (jt_or2 (l := false) (jt_not (jt_val (je_callG (d := .bool true) (ok_L_is_word L) rfl (by show 3 ≤ 3; decide) (ja_cons (je_var (n := 0) rfl) (ja_cons (je_var (n := 2) rfl) ja_nil)) ⟨p, n, rows, r, rfl, rfl, hp, hn, hl, hw, hr, hlen⟩))) fun _ => (jt_is (jt_eqD 3 (je_lcf (pr := fun d : Int => decide (d ≠ 0)) (f := fun d : Int => .int d) (own := [("_law_d", 4)]) rfl (jw_tup (j := 4) (enc := PyData.int) (items := r) (je_var (n := 2) rfl)) (pg_nameS (j := 4)) (fun v_d hm => (jt_neI (je_var (n := 4) rfl) je_int)) (fun v_d hm hp => (je_var (n := 4) rfl)) (by rw [hr.1]; omega)) (je_lst ja_nil) (okD_lI 2 _) rfl) ?_)) rfl) rfl ?_
  · rw [eqv_nilL]
    unfold notZ at hnz
    cases q : r.filter fun d => decide (d ≠ 0) with
    | nil => rw [q] at hnz; cases hnz
    | cons x l => rfl
  refine js_retE (je_eqD 3 (je_lcf (pr := fun _ => false) (f := fun d : Int => .int d) (own := [("_law_k", 3)]) rfl (jw_range1 (j := 3) (JE.is (je_len (je_var (n := 2) rfl) (.t _) (L.bl _ (by decide))) (y := .int (n : Nat)) (by rw [List.length_map, hr.1])) (L.bl _ (by decide)) (by omega)) (pg_nameS (j := 3)) (fun v_k hm => ?_) (fun v_k hm hp => (je_var (n := 3) rfl)) (by rw [len_rangeI]; omega)) (je_lst ja_nil) (by rw [filt_none]; rfl) rfl) ?_ rfl
  · obtain ⟨k, rfl, hk⟩ := range_nat hm
    refine jt_is (jt_and2 (k := (ds.getD k none).isSome) (l := decide (gI r k ≠ 0)) (jt_is (jt_notN (je_ixL (je_var (n := 1) rfl) (je_var (n := 3) rfl) (atI_dig (by omega)))) (notNone_dig _)) fun _ => (jt_neI (je_ixT (je_var (n := 2) rfl) (je_var (n := 3) rfl) (atI_int (by rw [hr.1]; exact hk))) je_int)) ?_
    cases q : (ds.getD k none).isSome with
    | false => rfl
    | true =>
      have : k ∈ heldI ds := List.mem_filter.mpr ⟨List.mem_range.mpr (by omega), q⟩
      rw [hz k this]
      rfl
  · rw [filt_none]
    rfl
def R_L_is_torn_right (args : List PyData) (d : PyData) : Prop := ∃ (p : Int) (n : Nat) (rows : List (List Int)) (ds : List (Option Int)) (ways : List Int), args = [bookD p (n : Nat) rows, dgl ds, tI ways] ∧ d = .bool true ∧ isP p ∧ n ≤ 30 ∧ rows.length ≤ 60 ∧ (∀ r ∈ rows, Wd p n r) ∧ Wd p n ways ∧ ds.length = n ∧ Dg p ds ∧
  (∀ k ∈ lostI ds, gI ways k = 0) ∧ (∀ r ∈ rows, dotI p r ways = 0) ∧ dotI p (told0 ds) ways ≠ 0
theorem ok_L_is_torn_right (L : Lib K mg fns bls) : CalG P w K mg base "_law_is_torn_right" 2 (spP R_L_is_torn_right) := by
  refine cal_pureG (N := ["_law_book_now", "_law_digits_now", "_law_ways", "_law_told", "_law_base", "_law_many", "_law_rows", "_law_d", "_law_k", "_law_row"]) (ps := ["_law_book_now", "_law_digits_now", "_law_ways"]) (k := 1) L 71 rfl ⟨rfl, rfl, rfl, by decide +kernel, rfl, by decide +kernel, by decide +kernel⟩ (bind3 fun _ _ _ _ _ _ _ _ _ => rfl) ?_ ?_
  · rintro args d ⟨_, _, _, _, _, rfl, _⟩; rfl
  rintro args d ⟨p, n, rows, ds, ways, rfl, rfl, hp, hn, hl, hw, hr, hdn, hD, hz, hrows, htold⟩ fa
  have hp1 := hp.two
  have hp2 := hp.le
  refine js_unpack (js := [4, 5, 6]) (je_var (n := 0) rfl) (.one (.one (.one .nil))) rfl ?_
  refine js_ifNo (jt_or2 (jt_not (jt_val (je_isi (T := "tuple") (je_var (n := 2) rfl) (kit_tuple _) (L.bl _ (by decide)) (L.bl _ (by decide)) (by decide +kernel)))) fun _ => (jt_neI (je_len (je_var (n := 2) rfl) (.t _) (L.bl _ (by decide))) (je_var (n := 5) rfl))) ?_ ?_
  · rw [List.length_map, hr.1]
    simp [isTupD]
    rfl
  refine js_ifNo (k := false) (jt_is (jt_neD 3 (je_lcf (pr := fun _ => false) (f := fun d : Int => .int d) (own := [("_law_d", 7)]) rfl (jw_tup (j := 7) (enc := PyData.int) (items := ways) (je_var (n := 2) rfl)) (pg_nameS (j := 7)) (fun v_d hm => ?_) (fun v_d hm hp => (je_var (n := 7) rfl)) (by rw [hr.1]; omega)) (je_lst ja_nil) (by rw [filt_none]; rfl) rfl) (by rw [filt_none]; rfl)) rfl ?_
  · have hd := hr.2 v_d hm
    refine jt_is (jt_notIn (ys := (rangeI 0 p).map fun k : Int => .str (PyData.int k).shown) (je_repr 3 rfl (je_var (n := 7) rfl) (d := .int v_d) (by exact decide_eq_true (by omega)) (by decide) (L.bl _ (by decide))) ?_ (.l _) rfl flat_strs) (by rw [shown_in hd.1 hd.2]; rfl)
    exact je_lcm (f := fun k : Int => .str (PyData.int k).shown) (own := [("_law_k", 8)]) rfl (jw_range1 (j := 8) (je_var (n := 4) rfl) (L.bl _ (by decide)) (by omega)) (pg_nameS (j := 8)) (fun v_k hm2 => (je_repr 3 rfl (je_var (n := 8) rfl) (d := .int v_k) (by have := mem_rangeI.mp hm2; exact decide_eq_true (by omega)) (by decide) (L.bl _ (by decide)))) (by rw [len_rangeI]; omega)
  refine js_ifNo (k := false) (jt_is (jt_neD 3 (je_lcf (pr := fun _ => false) (f := fun d : Int => .int d) (own := [("_law_k", 8)]) rfl (jw_range1 (j := 8) (je_var (n := 5) rfl) (L.bl _ (by decide)) (by omega)) (pg_nameS (j := 8)) (fun v_k hm => ?_) (fun v_k hm hp => (je_var (n := 8) rfl)) (by rw [len_rangeI]; omega)) (je_lst ja_nil) (by rw [filt_none]; rfl) rfl) (by rw [filt_none]; rfl)) rfl ?_
  · obtain ⟨k, rfl, hk⟩ := range_nat hm
    refine jt_is (jt_and2 (k := (ds.getD k none).isNone) (l := decide (gI ways k ≠ 0)) (jt_is (jt_isN (je_ixL (je_var (n := 1) rfl) (je_var (n := 8) rfl) (atI_dig (by omega)))) (isNone_dig _)) fun _ => (jt_neI (je_ixT (je_var (n := 2) rfl) (je_var (n := 8) rfl) (atI_int (by rw [hr.1]; exact hk))) je_int)) ?_
    cases q : (ds.getD k none).isNone with
    | false => rfl
    | true =>
      have : k ∈ lostI ds := List.mem_filter.mpr ⟨List.mem_range.mpr (by omega), q⟩
      rw [hz k this]
      rfl
  refine js_asgM (f := fun o : Option Int => .int (o.getD 0)) (i := 3) (own := [("_law_d", 7)]) rfl (jw_list (j := 7) (enc := digD) (items := ds) (je_var (n := 1) rfl)) (pg_nameS (j := 7)) (fun v_d hm => JE.is (je_ite (jt_isN (je_var (n := 7) rfl)) (fun _ => je_int) fun _ => (je_var (n := 7) rfl)) (by cases v_d <;> rfl)) (by omega) (d := lI (told0 ds)) (by unfold lI lstE told0; rw [List.map_map]; rfl) ?_
  have tb : ∀ x ∈ told0 ds, -1000 ≤ x ∧ x ≤ 1000 := fun x hx => by
    obtain ⟨o, ho, rfl⟩ := List.mem_map.mp hx
    cases o with
    | none => exact ⟨by decide, by decide⟩
    | some i =>
      have := hD _ ho i rfl
      show -1000 ≤ i ∧ i ≤ 1000
      omega
  have tl : (told0 ds).length = n := by unfold told0; rw [List.length_map, hdn]
  refine js_retE (je_and (je_eqD 3 (je_lcf (pr := fun _ => false) (f := fun r : List Int => tI r) (own := [("_law_row", 9)]) rfl (jw_tup (j := 9) (enc := tupE .int) (items := rows) (je_var (n := 6) rfl)) (pg_nameS (j := 9)) (fun v_row hm => ?_) (fun v_row hm hp => (je_var (n := 9) rfl)) (by omega)) (je_lst ja_nil) (by rw [filt_none]; rfl) rfl) fun _ => (je_one (je_neI (je_call (ok_L_sum L) (by show 1 ≤ 1; decide) (ja_cons (je_var (n := 4) rfl) (ja_cons (je_var (n := 3) rfl) (ja_cons (je_var (n := 2) rfl) ja_nil))) ⟨p, _, ways, lstE PyData.int, rfl, rfl, by omega, by omega, by rw [tl, hr.1]; exact Nat.le_refl _, tb, .inl rfl⟩) je_int))) ?_ rfl
  · refine jt_is (jt_neI (je_call (ok_L_sum L) (by show 1 ≤ 1; decide) (ja_cons (je_var (n := 4) rfl) (ja_cons (je_var (n := 9) rfl) (ja_cons (je_var (n := 2) rfl) ja_nil))) ⟨p, v_row, ways, tupE PyData.int, rfl, rfl, by omega, by rw [(hw _ hm).1]; omega, by rw [(hw _ hm).1, hr.1]; exact Nat.le_refl _, fun x hx => by have := (hw _ hm).2 x hx; omega, .inr rfl⟩) je_int) ?_
    rw [hrows _ hm]
    rfl
  · rw [filt_none]
    show PyData.bool (true && decide (dotI p (told0 ds) ways ≠ 0)) = _
    rw [decide_eq_true htold]
    rfl
end
end Sh


set_option Elab.async false
set_option linter.all false
set_option maxRecDepth 100000
set_option maxHeartbeats 40000000
set_option autoImplicit false
/-! W15: _law_filled -/
namespace Sh
open PySem PySem.Spec
      PyProof.Rows L2
/-- one row's share -/
def shareI (p : Int) (n m : Nat) (ds : List (Option Int)) (kept : List Nat) (found row : List Int) : List Int :=
  if ldg row < m then (List.range n).map fun k => (gI found k + ((ds.getD (kept.getD (ldg row) 0) none).getD 0) * gI row k) % p else found
def foundL (p : Int) (n : Nat) (rows : List (List Int)) (ds : List (Option Int)) : List Int :=
  (reducedI p (rows.map (atP (firstO n (heldI ds))))).foldl (shareI p n (heldI ds).length ds (heldI ds)) (List.replicate n 0)
def filledL (p : Int) (n : Nat) (rows : List (List Int)) (ds : List (Option Int)) : Option (List Int) :=
  if (List.range (heldI ds).length).all fun k => decide (gI (foundL p n rows ds) k = (ds.getD ((heldI ds).getD k 0) none).getD 0) then some (backI (firstO n (heldI ds)) (foundL p n rows ds)) else none
theorem share_wd {p : Int} {n m : Nat} {ds : List (Option Int)} {kept : List Nat} {found row : List Int} (hp : 0 < p) (h : Wd p n found) : Wd p n (shareI p n m ds kept found row) := by
  unfold shareI
  split
  · refine ⟨by rw [List.length_map, List.length_range], fun x hx => ?_⟩
    obtain ⟨k, _, rfl⟩ := List.mem_map.mp hx
    exact modLt hp _
  · exact h
theorem fold_share_wd {p : Int} {n m : Nat} {ds : List (Option Int)} {kept : List Nat} (hp : 0 < p) : ∀ (l : List (List Int)) (f : List Int), Wd p n f → Wd p n (l.foldl (shareI p n m ds kept) f)
  | [], _, h => h
  | _ :: l, _, h => fold_share_wd hp l _ (share_wd hp h)
theorem zero_wd {p : Int} (hp : 0 < p) (n : Nat) : Wd p n (List.replicate n 0) := ⟨List.length_replicate, fun x hx => by rw [(List.mem_replicate.mp hx).2]; omega⟩
section
variable {P : Program} {w : World} {K :
      PySem.W.Frag} {mg : Str → Option Value} {base : Heap}
def R_L_filled (args : List PyData) (d : PyData) : Prop := ∃ (p : Int) (n : Nat) (rows : List (List Int)) (ds : List (Option Int)), args = [bookD p (n : Nat) rows, dgl ds] ∧ d = optD (filledL p n rows ds) ∧ isP p ∧ n ≤ 30 ∧ rows.length ≤ 60 ∧ (∀ r ∈ rows, Wd p n r) ∧ ds.length = n ∧ Dg p ds
theorem ok_L_filled (L : Lib K mg fns bls) : Cal P w K mg base "_law_filled" 4 (spP R_L_filled) := by
  refine cal_pure (N := ["_law_book_now", "_law_digits_now", "_law_kept", "_law_found", "_law_row", "_law_base", "_law_many", "_law_rows", "_law_order", "_law_some", "_law_lead", "_law_k", "_law_by"]) (ps := ["_law_book_now", "_law_digits_now"]) (k := 3) L 74 rfl ⟨rfl, rfl, rfl, by decide +kernel, rfl, by decide +kernel, by decide +kernel⟩ (bind2 fun _ _ _ _ _ _ _ _ => rfl) ?_ ?_
  · rintro args d ⟨_, _, _, _, rfl, _⟩; rfl
  rintro args d ⟨p, n, rows, ds, rfl, rfl, hp, hn, hl, hw, hdn, hD⟩ fa
  have hp1 := hp.two
  have hp2 := hp.le
  have knd := held_nd ds
  have klt : ∀ k ∈ heldI ds, k < n := fun k hk => by have := (held_lt hk).1; omega
  have kle := held_len ds
  obtain ⟨fl, fa1, fm, fnd⟩ := first_len knd klt
  have pw := perm_wd (p := p) (by omega) hw knd klt
  obtain ⟨fR, _, _, _⟩ := reduced_red hp pw
  have frl := red_len fR
  refine js_unpack (js := [5, 6, 7]) (je_var (n := 0) rfl) (.one (.one (.one .nil))) rfl ?_
  refine js_asgCell (i := 2) (je_lcf (pr := fun k : Int => (ds.getD k.toNat none).isSome) (f := fun k : Int => .int k) (own := [("_law_k", 11)]) rfl (jw_range1 (j := 11) (je_var (n := 6) rfl) (L.bl _ (by decide)) (by omega)) (pg_nameS (j := 11)) (fun v_k hm => ?_) (fun v_k hm hp => (je_var (n := 11) rfl)) (by rw [len_rangeI]; omega)) (d := lN (heldI ds)) ?_ ?_
  · obtain ⟨k, rfl, hk⟩ := range_nat hm
    exact jt_is (jt_notN (je_ixL (je_var (n := 1) rfl) (je_var (n := 11) rfl) (atI_dig (by omega)))) (notNone_dig _)
  · rw [filt_range]
    unfold lN lstE heldI
    rw [hdn]
    rfl
  refine js_unpack (js := [8, 9]) (xs := [lN (firstO n (heldI ds)), tTI (reducedI p (rows.map (atP (firstO n (heldI ds)))))]) (je_call (ok_L_first L) (by show 3 ≤ 3; decide) (ja_cons (je_var (n := 0) rfl) (ja_cons (je_var (n := 2) rfl) ja_nil)) ⟨p, n, rows, _, rfl, rfl, hp, hn, hl, hw, knd, klt⟩) (.one (.one .nil)) rfl ?_
  refine js_asgE (i := 3) (je_repL (je_lst (ja_cons je_int ja_nil)) (je_var (n := 6) rfl) (by omega) (by omega)) (d := lI (List.replicate n 0)) (by unfold lI lstE; rw [List.map_replicate]; rfl) ?_
  have inv : ∀ i, Wd p n (((reducedI p (rows.map (atP (firstO n (heldI ds))))).take i).foldl (shareI p n (heldI ds).length ds (heldI ds)) (List.replicate n 0)) := fun i => fold_share_wd (by omega) _ _ (zero_wd (by omega) n)
  have heldAt : ∀ k, k < (heldI ds).length → (heldI ds)[k]? = some ((heldI ds).getD k 0) := fun k hk => by rw [List.getD_eq_getElem?_getD, List.getElem?_eq_getElem hk]; rfl
  have heldIx : ∀ k, k < (heldI ds).length → atI ((heldI ds).map fun k : Nat => PyData.int (k : Nat)) (k : Int) = some (.int ((heldI ds).getD k 0 : Nat)) := fun k hk => atI_nat (by rw [List.getElem?_map, heldAt k hk]; rfl)
  have digIx : ∀ k, k < (heldI ds).length → atI (ds.map digD) (((heldI ds).getD k 0 : Nat) : Int) = some (.int ((ds.getD ((heldI ds).getD k 0) none).getD 0)) := fun k hk => atI_held (List.mem_of_getElem? (heldAt k hk))
  refine js_forM (P := fun i ds' => ∃ a b c e, ds' = [.val (bookD p (n : Nat) rows), .val (dgl ds), .val (lN (heldI ds)), .val (lI (((reducedI p (rows.map (atP (firstO n (heldI ds))))).take i).foldl (shareI p n (heldI ds).length ds (heldI ds)) (List.replicate n 0))), a, .val (.int p), .val (.int (n : Nat)), .val (tTI rows), .val (lN (firstO n (heldI ds))), .val (tTI (reducedI p (rows.map (atP (firstO n (heldI ds)))))), b, c, e])
    (jw_tup (j := 4) (enc := tupE .int) (items := reducedI p (rows.map (atP (firstO n (heldI ds))))) (je_var (n := 9) rfl)) (pg_nameS (j := 4)) ⟨_, _, _, _, rfl⟩ (fun i a ds' hi hP => ?_) fun ds' hP => ?_
  · obtain ⟨u1, u2, u3, u4, rfl⟩ := hP
    have ha := List.mem_of_getElem? hi
    obtain ⟨a1, a2, a3, a4⟩ := fR.lead ha
    have aw := fR.wd a ha
    have hI := inv i
    have st : ((reducedI p (rows.map (atP (firstO n (heldI ds))))).take (i + 1)).foldl (shareI p n (heldI ds).length ds (heldI ds)) (List.replicate n 0) = shareI p n (heldI ds).length ds (heldI ds) (((reducedI p (rows.map (atP (firstO n (heldI ds))))).take i).foldl (shareI p n (heldI ds).length ds (heldI ds)) (List.replicate n 0)) a := by
      rw [take_snoc hi, List.foldl_append]
      rfl
    generalize ((reducedI p (rows.map (atP (firstO n (heldI ds))))).take i).foldl (shareI p n (heldI ds).length ds (heldI ds)) (List.replicate n 0) = fnd at hI st ⊢
    refine js_asgE (i := 10) (je_ixL (je_lcf (pr := fun k : Int => decide (gI a k.toNat ≠ 0)) (f := fun k : Int => .int k) (own := [("_law_k", 11)]) rfl (jw_range1 (j := 11) (je_var (n := 6) rfl) (L.bl _ (by decide)) (by omega)) (pg_nameS (j := 11)) (fun v_k hm => by
      obtain ⟨k, rfl, hk⟩ := range_nat hm
      exact jt_neI (je_ixT (je_var (n := 4) rfl) (je_var (n := 11) rfl) (atI_int (by rw [aw.1]; exact hk))) je_int) (fun v_k hm hp => (je_var (n := 11) rfl)) (by rw [len_rangeI]; omega)) je_int (d := .int (ldg a : Nat)) ?_) rfl ?_
    · rw [filt_range]
      refine atI_nat (i := 0) ?_
      rw [List.getElem?_map]
      have h0 : ((List.range n).filter fun k : Nat => decide (gI a ((k : Nat) : Int).toNat ≠ 0))[0]? = some (ldg a) := by
        rw [← List.head?_eq_getElem?, List.head?_filter, List.find?_range_eq_some]
        refine ⟨by show decide (gI a (ldg a) ≠ 0) = true; rw [a2]; rfl, List.mem_range.mpr a3, fun j hj => ?_⟩
        show (!decide (gI a j ≠ 0)) = true
        rw [a4 j hj]
        rfl
      rw [h0]
      rfl
    refine js_iff (k := decide (ldg a < (heldI ds).length)) (jt_is (jt_lt (je_var (n := 10) rfl) (JE.is (je_len (je_var (n := 2) rfl) (.l _) (L.bl _ (by decide))) (y := .int ((heldI ds).length : Nat)) (by rw [List.length_map]))) (by simp)) (fun hc => ?_) fun hc => ?_
    · have hc' := of_decide_eq_true hc
      have db := hD.get (p := p) (by omega) ((heldI ds).getD (ldg a) 0)
      refine js_asgE (i := 12) (je_ixL (je_var (n := 1) rfl) (je_ixL (je_var (n := 2) rfl) (je_var (n := 10) rfl) (heldIx _ hc')) (digIx _ hc')) rfl ?_
      refine js_asgCell (i := 3) (je_lcm (f := fun k : Int => .int ((gI fnd k.toNat + ((ds.getD ((heldI ds).getD (ldg a) 0) none).getD 0) * gI a k.toNat) % p)) (own := [("_law_k", 11)]) rfl (jw_range1 (j := 11) (je_var (n := 6) rfl) (L.bl _ (by decide)) (by omega)) (pg_nameS (j := 11)) (fun v_k hm => by
        obtain ⟨k, rfl, hk⟩ := range_nat hm
        exact je_mod (je_int1 (je_add (je_ixL (je_var (n := 3) rfl) (je_var (n := 11) rfl) (atI_int (by rw [hI.1]; exact hk))) (je_mul (je_var (n := 12) rfl) (je_ixT (je_var (n := 4) rfl) (je_var (n := 11) rfl) (atI_int (by rw [aw.1]; exact hk))) (cmul_l (by omega) (by omega)))) (L.bl _ (by decide))) (je_var (n := 5) rfl) (by omega)) (by rw [len_rangeI]; omega)) (d := lI (shareI p n (heldI ds).length ds (heldI ds) fnd a)) ?_ (js_nil (js_nil (by rw [st]; exact ⟨_, _, _, _, rfl⟩)))
      rw [map_range]
      unfold lI lstE shareI
      rw [if_pos hc', List.map_map]
      rfl
    · refine js_nil (js_nil ?_)
      have e : shareI p n (heldI ds).length ds (heldI ds) fnd a = fnd := by unfold shareI; rw [if_neg (of_decide_eq_false hc)]
      rw [st, e]
      exact ⟨_, _, _, _, rfl⟩
  · obtain ⟨u1, u2, u3, u4, rfl⟩ := hP
    have hI := inv (reducedI p (rows.map (atP (firstO n (heldI ds))))).length
    rw [List.take_length] at hI ⊢
    have hw15 : ∀ fnd : List Int, Wd p n fnd → foundL p n rows ds = fnd → JS (scD P w K mg base ["_law_book_now", "_law_digits_now", "_law_kept", "_law_found", "_law_row", "_law_base", "_law_many", "_law_rows", "_law_order", "_law_some", "_law_lead", "_law_k", "_law_by"] s_L_filled 3 false fa) false ((defBody s_L_filled).drop 5) [.val (bookD p (n : Nat) rows), .val (dgl ds), .val (lN (heldI ds)), .val (lI fnd), u1, .val (.int p), .val (.int (n : Nat)), .val (tTI rows), .val (lN (firstO n (heldI ds))), .val (tTI (reducedI p (rows.map (atP (firstO n (heldI ds)))))), u2, u3, u4] { nx := fun _ => optD (filledL p n rows ds) = .none, rt := fun z => z = optD (filledL p n rows ds) } := by
      intro fnd hI hF
      refine js_iff (k := !((List.range (heldI ds).length).all fun k => decide (gI fnd k = (ds.getD ((heldI ds).getD k 0) none).getD 0))) (jt_is (jt_neD 3 (je_lcf (pr := fun k : Int => decide (gI fnd k.toNat ≠ (ds.getD ((heldI ds).getD k.toNat 0) none).getD 0)) (f := fun k : Int => .int k) (own := [("_law_k", 11)]) rfl (jw_range1 (j := 11) (JE.is (je_len (je_var (n := 2) rfl) (.l _) (L.bl _ (by decide))) (y := .int ((heldI ds).length : Nat)) (by rw [List.length_map])) (L.bl _ (by decide)) (by omega)) (pg_nameS (j := 11)) (fun v_k hm => by
        obtain ⟨k, rfl, hk⟩ := range_nat hm
        exact jt_neI (je_ixL (je_var (n := 3) rfl) (je_var (n := 11) rfl) (atI_int (by rw [hI.1]; omega))) (je_ixL (je_var (n := 1) rfl) (je_ixL (je_var (n := 2) rfl) (je_var (n := 11) rfl) (heldIx k hk)) (digIx k hk))) (fun v_k hm hp => (je_var (n := 11) rfl)) (by rw [len_rangeI]; omega)) (je_lst ja_nil) ?_ rfl) ?_) (fun hc => ?_) fun hc => ?_
      · show (List.map _ _).all (okD 2) = true
        rw [List.all_map]
        exact List.all_eq_true.mpr
              fun _ _ => rfl
      · rw [eqv_nilL, filt_range, List.isEmpty_map]
        congr 1
        rw [Bool.eq_iff_iff, List.isEmpty_iff, List.filter_eq_nil_iff, List.all_eq_true]
        refine forall_congr' fun k => forall_congr' fun _ => ?_
        simp
      · refine js_retE je_non ?_ rfl
        unfold filledL
        rw [hF, if_neg (by rw [Bool.not_eq_true'] at hc; rw [hc]; decide)]
        rfl
      · refine js_nil (js_retE (je_call (ok_L_back L) (by show 1 ≤ 3; decide) (ja_cons (je_var (n := 8) rfl) (ja_cons (je_var (n := 3) rfl) ja_nil)) ⟨_, _, lstE PyData.int, rfl, rfl, by omega, by rw [hI.1, fl], fun k hk => fa1 k (by omega), .inl rfl⟩) ?_ rfl)
        unfold filledL
        rw [hF, if_pos (by rw [Bool.not_eq_false'] at hc; exact hc)]
        rfl
    exact hw15 _ hI rfl
end
end Sh


set_option Elab.async false
set_option linter.all false
set_option maxRecDepth 100000
set_option maxHeartbeats 40000000
set_option autoImplicit false
/-! W16: _law_draw -/
namespace Sh
open PySem PySem.Spec
      PyProof.Rows L2
def R_L_draw (args : List PyData) (Pd : PyData → Prop) : Prop := ∃ m : Int, args = [.int m] ∧ 1 ≤ m ∧ m ≤ 1000000 ∧ ∀ v : Int, 0 ≤ v → v < m → Pd (.int v)
def cellI (cells : List Int) (n : Int) : Int := if cells = [] then 827219 else cells.getD (n % ((cells.length : Nat) : Int)).toNat 0
section
variable {P : Program} {w : World} {K : PySem.W.Frag} {mg : Str → Option Value} {base : Heap} {x : Str} {st : Stmt} {f : Addr} {fd : FuncData} {N : List Str} {a b : Str} {k : Nat}
/-- a def of the feed and a number whose body writes the feed -/
theorem fn_draw (F : FnP K x st f fd) (Sc : FnScope N [a, b] (defScope st))
    (body : ∀ (m : Int), 1 ≤ m → m ≤ 1000000 → ∀ (fa : FA) (cells : List Int) (n l t : Int), 0 ≤ n → 0 ≤ l → cells.length ≤ 63 → JD (scD P w K mg base N st k false fa) cells n l t (defBody st) (slots (N.length - 1) [.val (.int m)]) (fun v => 0 ≤ v ∧ v < m)) :
    FnOk P w K mg base CX0 (k + 1) f fd [a, b] (spF R_L_draw) := by
  refine F.ok Sc (fun vs H Q E h => ?_) fun cdv A outer s H vs Q E hr h => ?_
  · obtain ⟨fa, O, ws, args, Pd, rfl, _, _, _, r, ⟨m, rfl, _⟩, _⟩ := h
    rw [List.length_cons, r.len]
    rfl
  · obtain ⟨fa, O, ws, args, Pd, rfl, hfO, dom, fe, r, ⟨m, rfl, m1, m2, hP⟩, kq⟩ := h
    have hH := holds_def (P := P) (w := w) (K := K) (mg := mg) (base := base) (CX := CX0) (outer := outer) (H := H) (E := E) (fa := fa) Sc hr
    refine ⟨tsOf (scD P w K mg base N st k false fa) (defBody st), PSs.nox (pss_tsOf hH), ?_⟩
    obtain ⟨⟨c, cells, n, l, t, h1, h2, h3, h4, h5⟩, h6⟩ := fe
    have sub : ∀ y ∈ O.filter (fun y => decide (y ≠ fa.ad)), y ∈ O := fun y hy => (List.mem_filter.mp hy).1
    have out : fa.ad ∉ O.filter (fun y => decide (y ≠ fa.ad)) := fun z => by simpa using (List.mem_filter.mp z).2
    have ce := hide_mono sub _ _ h4
    obtain ⟨c1, c2⟩ := hide_some h4
    have cne : c ≠ fa.ad := fun z => by rw [z, h1] at c2; cases c2
    have hN : 2 ≤ N.length := sc_le Sc
    have es : slots N.length (.dkv (fdkv (lI cells) n l t) :: [Slot.val (.int m)]) = .dkv (fdkv (lI cells) n l t) :: slots (N.length - 1) [.val (.int m)] := by
      unfold slots
      rw [List.length_cons, List.cons_append, show N.length - ([Slot.val (.int m)].length + 1) = N.length - 1 - [Slot.val (.int m)].length by simp only [List.length_cons, List.length_nil]; omega]
    refine body m m1 m2 fa cells n l t h2 h3 h5.1 c H (O.filter fun y => decide (y ≠ fa.ad)) H (L2.start N (.ref fa.ad :: ws)) ⟨?_, ?_, ?_, out, h1, ce, fun _ _ _ h => h, h2, h3⟩ _ fun i H' n' l' t' hn hl dk kp hi => ?_
    · rw [← es]
      refine st_start (fun y hy => dom y (sub y hy)) (by rw [List.length_cons, r.len]; rfl) (by rw [List.length_cons, r.len]; exact hN) (fun i s q => ?_) (fun i xs q => ?_)
      · match i, q with
        | 0, q => cases q; exact feed_slot fa.ad out h1 ce
        | 1, q =>
          cases q
          obtain ⟨v, e1, e2⟩ := r.get (i := 0) rfl
          exact ⟨v, e1, e2.mono (hide_mono sub)⟩
      · match i, q with
        | 0, q => cases q
        | 1, q => cases q
    · unfold slots
      rw [List.all_append, List.all_replicate]
      cases decide (N.length - 1 - [Slot.val (PyData.int m)].length = 0) <;> simp [flatS]
    · rw [start_get (by rw [List.length_cons]; omega)]
      rfl
    · refine kq _ _ _ (fun y o hy q => kp y o (fun z => hy (by rw [z]; exact List.mem_cons_self)) q) ⟨⟨c, cells, n', l', t', dk, hn, hl, by rw [hide_out c1]; exact kp _ _ cne c2, h5⟩, fun p hp => ?_⟩ (.int i) (hP i hi.1 hi.2)
      obtain ⟨ps, e, tr, co⟩ := h6 p hp
      refine ⟨ps, kp _ _ (fun z => by rw [z, h1] at e; cases e) e, tr, fun pos cv hc => ?_⟩
      obtain ⟨c, e1, e2⟩ := co pos cv hc
      exact ⟨c, e1, kp _ _ (fun z => by rw [z, h1] at e2; cases e2) e2⟩
theorem mixed_lt {z q : Int} (h : 0 < q) (hq : q ≤ 2147487029) : CMul (z % q) (z % q) := by
  have := modLt h z
  exact .inl ⟨by omega, by omega⟩
theorem ok_L_draw (L : Lib K mg fns bls) : Cal P w K mg base "_law_draw" 1 (spF R_L_draw) := by
  obtain ⟨f, fd, F, hm⟩ := L.fn 50 _ _ rfl
  refine cal_of F (fn_draw (N := ["_law_feed_here", "_law_many", "_law_near", "_law_cell", "_law_mixed", "_law_digit"]) (k := 0) F ⟨rfl, rfl, rfl, by decide +kernel, rfl, by decide +kernel, by decide +kernel⟩ ?_) hm (bind2 fun _ _ _ _ _ _ _ _ => rfl)
  intro m m1 m2 fa cells n l t n0 l0 hc
  have kLeft : ∀ n l t, dkAt (fdkv (lI cells) n l t) (.inr "left") = some (.int l) := fun _ _ _ => rfl
  have kNext : ∀ n l t, dkAt (fdkv (lI cells) n l t) (.inr "next") = some (.int n) := fun _ _ _ => rfl
  have kTurn : ∀ n l t, dkAt (fdkv (lI cells) n l t) (.inr "turn") = some (.int t) := fun _ _ _ => rfl
  have kCell : ∀ n l t, dkAt (fdkv (lI cells) n l t) (.inr "cells") = some (lI cells) := fun _ _ _ => rfl
  have md : ∀ z : Int, 0 ≤ z % m ∧ z % m < m := fun z => modLt (by omega) z
  have dv : CDiv 0 m := ⟨by omega, by omega⟩
  refine jd_putR (je_add (je_dkey (n := 0) rfl (kTurn _ _ _)) je_int) (fun _ => putFeed_turn) n0 l0 ?_
  refine jd_if (jt_gt (je_dkey (n := 0) rfl (kLeft _ _ _)) je_int) (fun hc => ?_) fun hc => ?_
  · refine jd_asg (i := 4) (je_mod (je_int1 (je_dkey (n := 0) rfl (kLeft _ _ _)) (L.bl _ (by decide))) (je_var (n := 1) rfl) (by omega)) ?_
    refine jd_putR (je_fdiv (je_dkey (n := 0) rfl (kLeft _ _ _)) (je_var (n := 1) rfl) dv) (fun _ => putFeed_left) n0 (Int.ediv_nonneg l0 (by omega)) ?_
    exact jd_ret (je_var (n := 5) rfl) (md _)
  refine jd_asg (i := 1) (je_dkey (n := 0) rfl (kNext _ _ _)) ?_
  refine jd_putR (je_add (je_var (n := 2) rfl) je_int) (fun _ => putFeed_next) (by omega) l0 ?_
  have len : (cells.map PyData.int).length = cells.length := List.length_map _
  have ne : cells ≠ [] → atI (cells.map PyData.int) (n % ((cells.length : Nat) : Int)) = some (.int (cellI cells n)) := fun h => by
    have hl : 0 < cells.length := List.length_pos_iff.mpr h
    obtain ⟨b1, b2⟩ := modLt (show (0 : Int) < (cells.length : Nat) by omega) n
    have e : n % ((cells.length : Nat) : Int) = ((n % ((cells.length : Nat) : Int)).toNat : Nat) := by omega
    rw [e]
    refine atI_nat ?_
    rw [List.getElem?_map, List.getElem?_eq_getElem (by omega)]
    unfold cellI
    rw [if_neg h, List.getD_eq_getElem?_getD, List.getElem?_eq_getElem (by omega)]
    rfl
  refine jd_asg (i := 2) (d := .int (cellI cells n)) (je_if (jt_neD 3 (je_dkey (n := 0) rfl (kCell _ _ _)) (je_lst ja_nil) (okD_lI 2 cells) rfl) (fun h => ?_) fun h => ?_) ?_
  · have h' : cells ≠ [] := fun z => by rw [z] at h; cases h
    exact je_ixL (je_dkey (n := 0) rfl (kCell _ _ _)) (JE.is (je_mod (je_int1 (je_var (n := 2) rfl) (L.bl _ (by decide))) (je_len (je_dkey (n := 0) rfl (kCell _ _ _)) (.l _) (L.bl _ (by decide))) (by rw [len]; have := List.length_pos_iff.mpr h'; omega)) (y := .int (n % ((cells.length : Nat) : Int))) (by rw [len])) (ne h')
  · have h' : cells = [] := by
      rw [show lI cells = PyData.list (cells.map PyData.int) from rfl, eqv_nilL] at h
      cases cells with
      | nil => rfl
      | cons y l => cases h
    exact JE.is je_int (by unfold cellI; rw [if_pos h'])
  refine jd_if (jt_and2 (jt_ge (je_var (n := 3) rfl) (je_pow je_int je_int (by exact ⟨by decide, by decide, by decide⟩))) fun _ => (jt_lt (je_var (n := 2) rfl) (je_len (je_dkey (n := 0) rfl (kCell _ _ _)) (.l _) (L.bl _ (by decide))))) (fun hb => ?_) fun hb => ?_
  · have g : (10 : Int) ^ ((18 : Int)).toNat ≤ cellI cells n := by
      rw [Bool.and_eq_true] at hb
      exact of_decide_eq_true hb.1
    refine jd_putR (je_fdiv (je_var (n := 3) rfl) (je_var (n := 1) rfl) dv) (fun _ => putFeed_left) (by omega) (Int.ediv_nonneg (by have h0 : (0 : Int) ≤ 10 ^ ((18 : Int)).toNat := (by decide); omega) (by omega)) ?_
    exact jd_ret (je_mod (je_int1 (je_var (n := 3) rfl) (L.bl _ (by decide))) (je_var (n := 1) rfl) (by omega)) (md _)
  refine jd_asg (i := 3) (je_mod (je_int1 (je_add (je_add (je_mod (je_int1 (je_var (n := 3) rfl) (L.bl _ (by decide))) je_int (by decide)) (je_mul je_int (je_dkey (n := 0) rfl (kTurn _ _ _)) (.inl (by decide)))) je_int) (L.bl _ (by decide))) je_int (by decide)) ?_
  refine jd_asg (i := 3) (je_mod (je_int1 (je_add (je_add (je_mul (je_var (n := 4) rfl) (je_var (n := 4) rfl) (mixed_lt (by decide) (by decide))) (je_mul je_int (je_dkey (n := 0) rfl (kTurn _ _ _)) (.inl (by decide)))) je_int) (L.bl _ (by decide))) je_int (by decide)) ?_
  exact jd_ret (je_mod (je_int1 (je_fdiv (je_mod (je_int1 (je_add (je_mul (je_var (n := 4) rfl) (je_var (n := 4) rfl) (mixed_lt (by decide) (by decide))) (je_mul je_int (je_var (n := 4) rfl) (.inl (by decide)))) (L.bl _ (by decide))) je_int (by decide)) je_int (by exact ⟨by decide, by decide⟩)) (L.bl _ (by decide))) (je_var (n := 1) rfl) (by omega)) (md _)
end
end Sh


set_option Elab.async false
set_option linter.all false
set_option maxRecDepth 100000
set_option maxHeartbeats 40000000
set_option autoImplicit false
/-! W17: _law_pick, _law_word, _law_throws -/
namespace Sh
open PySem PySem.Spec
      PyProof.Rows L2
section
variable {P : Program} {w : World} {K :
      PySem.W.Frag} {mg : Str → Option Value} {base : Heap}
def R_L_pick (args : List PyData) (Pd : PyData → Prop) : Prop := ∃ ws : List Int, args = [lI ws] ∧ ws ≠ [] ∧ ws.length ≤ 1000 ∧ ∀ v ∈ ws, Pd (.int v)
theorem ok_L_pick (L : Lib K mg fns bls) : Cal P w K mg base "_law_pick" 2 (spF R_L_pick) := by
  refine cal_feed (N := ["_law_feed_here", "_law_some"]) (ps := ["_law_feed_here", "_law_some"]) (k := 1) L 49 rfl ⟨rfl, rfl, rfl, by decide +kernel, rfl, by decide +kernel, by decide +kernel⟩ (bind2 fun _ _ _ _ _ _ _ _ => rfl) ?_ ?_
  · rintro args d ⟨_, rfl, _⟩; rfl
  rintro args Pd ⟨ws, rfl, h1, h2, hP⟩ fa
  have hl := List.length_pos_iff.mpr h1
  refine js_retF (jf_ixL (xs := ws.map PyData.int) (je_var (n := 1) rfl) (jf_call (ok_L_draw L) (by show 1 ≤ 1; decide) (i := 0) rfl (ja_cons (JE.is (je_len (je_var (n := 1) rfl) (.l _) (L.bl _ (by decide))) (y := .int (ws.length : Nat)) (by rw [List.length_map])) ja_nil) ⟨_, rfl, by omega, by omega, fun v v0 v1 => ⟨v, .int (gI ws v.toNat), rfl, ?_, hP _ ?_⟩⟩))
  · have := atI_int (ws := ws) (i := v.toNat) (by omega)
    rwa [show ((v.toNat : Nat) : Int) = v by omega] at this
  · exact List.mem_of_getElem? (gI_get (by omega))
def R_L_word (args : List PyData) (Pd : PyData → Prop) : Prop := ∃ (p : Int) (n : Nat) (rows : List (List Int)), args = [bookD p (n : Nat) rows] ∧ isP p ∧ n ≤ 30 ∧ rows.length ≤ 60 ∧ (∀ r ∈ rows, Wd p n r) ∧ ∀ ws, Wd p n ws → Span p rows (gI ws) → Pd (lI ws)
theorem ok_L_word (L : Lib K mg fns bls) : Cal P w K mg base "_law_word" 2 (spF R_L_word) := by
  refine cal_feed (N := ["_law_feed_here", "_law_book_now", "_law_found", "_law_row", "_law_base", "_law_many", "_law_rows", "_law_by", "_law_k"]) (ps := ["_law_feed_here", "_law_book_now"]) (k := 1) L 69 rfl ⟨rfl, rfl, rfl, by decide +kernel, rfl, by decide +kernel, by decide +kernel⟩ (bind2 fun _ _ _ _ _ _ _ _ => rfl) ?_ ?_
  · rintro args d ⟨_, _, _, rfl, _⟩; rfl
  rintro args Pd ⟨p, n, rows, rfl, hp, hn, hl, hw, hP⟩ fa
  have hp1 := hp.two
  have hp2 := hp.le
  refine js_unpack (js := [4, 5, 6]) (je_var (n := 1) rfl) (.one (.one (.one .nil))) rfl ?_
  refine js_asgE (i := 2) (je_repL (je_lst (ja_cons je_int ja_nil)) (je_var (n := 5) rfl) (by omega) (by omega)) (d := lI (List.replicate n 0)) (by unfold lI lstE; rw [List.map_replicate]; rfl) ?_
  refine js_forM (P := fun _ ds' => ∃ f a b c, Wd p n f ∧ Span p rows (gI f) ∧ ds' = [.fd, .val (bookD p (n : Nat) rows), .val (lI f), a, .val (.int p), .val (.int (n : Nat)), .val (tTI rows), b, c])
    (jw_tup (j := 3) (enc := tupE .int) (items := rows) (je_var (n := 6) rfl)) (pg_nameS (j := 3)) ⟨_, _, _, _, zero_wd (by omega) n, .zero fun i => .of ?_, rfl⟩ (fun i a ds' hi hP' => ?_) fun ds' hP' => ?_
  · unfold gI
    rw [List.getD_eq_getElem?_getD, List.getElem?_replicate]
    split <;> rfl
  · obtain ⟨f, a1, a2, a3, hf, hs, rfl⟩ := hP'
    have ha := List.mem_of_getElem? hi
    have aw := hw a ha
    refine js_asgF (i := 7) (jf_call (ok_L_draw L) (by show 1 ≤ 1; decide) (i := 0) rfl (ja_cons (je_var (n := 4) rfl) ja_nil) ⟨p, rfl, by omega, by omega, fun v v0 v1 => ?_⟩)
    refine js_asgCell (i := 2) (je_lcm (f := fun k : Int => .int ((gI f k.toNat + v * gI a k.toNat) % p)) (own := [("_law_k", 8)]) rfl (jw_range1 (j := 8) (je_var (n := 5) rfl) (L.bl _ (by decide)) (by omega)) (pg_nameS (j := 8)) (fun v_k hm => ?_) (by rw [len_rangeI]; omega)) (d := lI ((List.range n).map fun k => (gI f k + v * gI a k) % p)) ?_ (js_nil ?_)
    · obtain ⟨k, rfl, hk⟩ := range_nat hm
      exact je_mod (je_int1 (je_add (je_ixL (je_var (n := 2) rfl) (je_var (n := 8) rfl) (atI_int (by rw [hf.1]; exact hk))) (je_mul (je_var (n := 7) rfl) (je_ixT (je_var (n := 3) rfl) (je_var (n := 8) rfl) (atI_int (by rw [aw.1]; exact hk))) (cmul_l (by omega) (by omega)))) (L.bl _ (by decide))) (je_var (n := 4) rfl) (by omega)
    · rw [map_range]
      unfold lI lstE
      rw [List.map_map]
      rfl
    · refine ⟨_, _, _, _, ⟨by rw [List.length_map, List.length_range], fun x hx => ?_⟩, (hs.add ((Span.mem ha).smul v)).cg fun i => ?_, rfl⟩
      · obtain ⟨k, _, rfl⟩ := List.mem_map.mp hx
        exact modLt (by omega) _
      · by_cases hin : i < n
        · have e : gI ((List.range n).map fun k => (gI f k + v * gI a k) % p) i = (gI f i + v * gI a i) % p := by
            unfold gI
            rw [List.getD_eq_getElem?_getD, List.getElem?_map, List.getElem?_range hin]
            rfl
          rw [e]
          exact .mod _
        · rw [gI_out (by rw [List.length_map, List.length_range]; omega), gI_out (ws := f) (by rw [hf.1]; omega), gI_out (ws := a) (by rw [aw.1]; omega)]
          exact .of (by omega)
  · obtain ⟨f, a1, a2, a3, hf, hs, rfl⟩ := hP'
    exact js_retF (jf_of (je_var (n := 2) rfl) (hP f hf hs))
/-! ### an order of the places -/
structure OrdOk (n : Nat) (l : List Int) : Prop where
  len : l.length = n
  lt : ∀ x ∈ l, 0 ≤ x ∧ x < n
  nd : l.Nodup
theorem OrdOk.perm {n : Nat} {l l' : List Int} (h : OrdOk n l) (q : l'.Perm l) : OrdOk n l' := ⟨q.length_eq.trans h.len, fun x hx => h.lt x (q.mem_iff.mp hx), q.nodup_iff.mpr h.nd⟩
theorem OrdOk.range (n : Nat) : OrdOk n ((List.range n).map fun k : Nat => (k : Int)) := by
  refine ⟨by rw [List.length_map, List.length_range], fun x hx => ?_, List.pairwise_map.mpr (List.nodup_range.imp fun h z => h (by omega))⟩
  obtain ⟨k, hk, rfl⟩ := List.mem_map.mp hx
  have := List.mem_range.mp hk
  omega
theorem OrdOk.turn {n : Nat} (t : Int) : OrdOk n ((List.range n).map fun k : Nat => ((k : Int) + t) % (n : Nat)) := by
  refine ⟨by rw [List.length_map, List.length_range], fun x hx => ?_, ?_⟩
  · obtain ⟨k, hk, rfl⟩ := List.mem_map.mp hx
    have := List.mem_range.mp hk
    exact modLt (by omega) _
  · refine List.pairwise_map.mpr (List.Pairwise.imp_of_mem (fun {a b} ha hb h z => h ?_) List.nodup_range)
    have ha := List.mem_range.mp ha
    have hb := List.mem_range.mp hb
    have c : Cg (n : Nat) ((a : Int) + t) ((b : Int) + t) := Cg.mod_iff.mpr z
    have c2 : Cg (n : Nat) (a : Int) (b : Int) := by
      have q := c.sub (.refl t)
      rwa [show (a : Int) + t - t = a by omega, show (b : Int) + t - t = b by omega] at q
    have := c2.eq (by omega) (by omega)
    omega
theorem ixN_nat {n i : Nat} (h : i < n) : ixN n (i : Int) = some i := by unfold ixN; simp [h]
def R_L_throws (args : List PyData) (Pd : PyData → Prop) : Prop := ∃ n : Nat, args = [.int (n : Nat)] ∧ 1 ≤ n ∧ n ≤ 10 ∧ ∀ ts, Pat n ts → Pd (tI ts)
theorem ok_L_throws (L : Lib K mg fns bls) : Cal P w K mg base "_law_throws" 2 (spF R_L_throws) := by
  refine cal_feed (N := ["_law_feed_here", "_law_many", "_law_k", "_law_found", "_law_order", "_law_sort", "_law_j", "_law_turn", "_law_far"]) (ps := ["_law_feed_here", "_law_many"]) (k := 1) L 52 rfl ⟨rfl, rfl, rfl, by decide +kernel, rfl, by decide +kernel, by decide +kernel⟩ (bind2 fun _ _ _ _ _ _ _ _ => rfl) ?_ ?_
  · rintro args d ⟨_, rfl, _⟩; rfl
  rintro args Pd ⟨n, rfl, hn1, hn, hP⟩ fa
  refine js_parNF (i := 4) (j := 5) (jn_listRg (je_var (n := 1) rfl) ⟨by omega, by omega⟩ (L.bl _ (by decide)) (L.bl _ (by decide))) (jf_call (ok_L_draw L) (by show 1 ≤ 1; decide) (i := 0) rfl (ja_cons je_int ja_nil) ⟨5, rfl, by decide, by decide, fun s s0 s1 => ?_⟩)
  refine js_forM (P := fun _ ds' => ∃ l a b, OrdOk n l ∧ ds' = [.fd, .val (.int (n : Nat)), a, .unk, .own (l.map .int), .val (.int s), b, .unk, .unk]) (jw_range3 (j := 2) (je_sub (je_var (n := 1) rfl) je_int) je_int (L.bl _ (by decide)) ⟨by omega, by omega, by omega, by omega⟩) (pg_nameS (j := 2))
    ⟨rangeI 0 (n : Nat), _, _, by rw [rangeI_nat]; exact .range n, rfl⟩ (fun i a ds' hi hP' => ?_) fun ds' hP' => ?_
  · obtain ⟨l, a1, a2, hl, rfl⟩ := hP'
    obtain ⟨b1, b2⟩ := mem_rangeD.mp (List.mem_of_getElem? hi)
    obtain ⟨k, rfl⟩ : ∃ k : Nat, a = k := ⟨a.toNat, by omega⟩
    refine js_asgF (i := 6) (jf_call (ok_L_draw L) (by show 1 ≤ 1; decide) (i := 0) rfl (ja_cons (je_add (je_var (n := 2) rfl) je_int) ja_nil) ⟨_, rfl, by omega, by omega, fun v v0 v1 => ?_⟩)
    obtain ⟨j, rfl⟩ : ∃ j : Nat, v = j := ⟨v.toNat, by omega⟩
    have hk : k < l.length := by rw [hl.len]; omega
    have hj : j < l.length := by rw [hl.len]; omega
    have ix : ∀ i, i < l.length → ixN (l.map PyData.int).length ((i : Nat) : Int) = some i := fun i h => by rw [List.length_map]; exact ixN_nat h
    have g : ∀ i (h : i < l.length), gI l i = l[i] := fun i h => by unfold gI; rw [List.getD_eq_getElem?_getD, List.getElem?_eq_getElem h]; rfl
    refine js_setTwo (n := 4) (xs := l.map PyData.int) (d1 := .int (gI l j)) (d2 := .int (gI l k)) rfl (je_ixO (i := 4) rfl (je_var (n := 6) rfl) (atI_int hj)) (je_ixO (i := 4) rfl (je_var (n := 2) rfl) (atI_int hk)) (je_var (n := 2) rfl) (je_var (n := 6) rfl) (ix k hk) (ix j hj) (js_nil ?_)
    refine ⟨(l.set k l[j]).set j l[k], .val (.int (k : Nat)), .val (.int (j : Nat)), hl.perm (List.set_set_perm hk hj), ?_⟩
    rw [List.map_set, List.map_set, ← g j hj, ← g k hk]
    rfl
  obtain ⟨l, a1, a2, hl, rfl⟩ := hP'
  refine js_if (M := fun ds' => ∃ l a b c, OrdOk n l ∧ ds' = [.fd, .val (.int (n : Nat)), a, .unk, .val (lI l), .val (.int s), b, c, .unk]) (jt_eqI (je_var (n := 5) rfl) je_int) (fun hc => ?_) (fun hc => ?_) fun ds' hM => ?_
  · refine js_asgF (i := 7) (jf_call (ok_L_draw L) (by show 1 ≤ 1; decide) (i := 0) rfl (ja_cons (je_var (n := 1) rfl) ja_nil) ⟨_, rfl, by omega, by omega, fun v v0 v1 => ?_⟩)
    refine js_asgM (f := fun k : Int => .int ((k + v) % (n : Nat))) (i := 4) (own := [("_law_k", 2)]) rfl (jw_range1 (j := 2) (je_var (n := 1) rfl) (L.bl _ (by decide)) (by omega)) (pg_nameS (j := 2)) (fun v_k hm => (je_mod (je_int1 (je_add (je_var (n := 2) rfl) (je_var (n := 7) rfl)) (L.bl _ (by decide))) (je_var (n := 1) rfl) (by omega))) (by rw [len_rangeI]; omega) (d := lI ((List.range n).map fun k : Nat => ((k : Int) + v) % (n : Nat))) ?_ (js_nil ?_)
    · rw [map_range]
      unfold lI lstE
      rw [List.map_map]
      rfl
    · exact ⟨_, _, _, _, .turn v, rfl⟩
  · exact js_freeze (i := 4) rfl (js_nil ⟨l, _, _, _, hl, rfl⟩)
  obtain ⟨l, a1, a2, a3, hl, rfl⟩ := hM
  refine js_asgN (i := 3) (jn_lst ja_nil) ?_
  refine js_forM (P := fun i ds' => ∃ ts a b c d, ts.length = i ∧ (∀ k < i, 0 ≤ gI ts k ∧ gI ts k ≤ n ∧ ((k : Int) + gI ts k) % (n : Nat) = gI l k) ∧ ds' = [.fd, .val (.int (n : Nat)), a, .own (ts.map .int), .val (lI l), .val (.int s), b, c, d]) (jw_range1 (j := 2) (je_var (n := 1) rfl) (L.bl _ (by decide)) (by omega)) (pg_nameS (j := 2))
    ⟨[], _, _, _, _, rfl, fun k hk => absurd hk (Nat.not_lt_zero k), rfl⟩ (fun i a ds' hi hP' => ?_) fun ds' hP' => ?_
  · obtain ⟨ts, b1, b2, b3, b4, hts, hg, rfl⟩ := hP'
    obtain ⟨rfl, hin⟩ := rangeI_at hi
    have gl := hl.lt (gI l i) (List.mem_of_getElem? (gI_get (by rw [hl.len]; exact hin)))
    refine js_asgE (i := 8) (je_mod (je_int1 (je_sub (je_ixL (je_var (n := 4) rfl) (je_var (n := 2) rfl) (atI_int (by rw [hl.len]; exact hin))) (je_var (n := 2) rfl)) (L.bl _ (by decide))) (je_var (n := 1) rfl) (by omega)) (d := .int ((gI l i - (i : Nat)) % (n : Nat))) rfl ?_
    have md := modLt (show (0 : Int) < (n : Nat) by omega) (gI l i - (i : Nat))
    have cg : Cg (n : Nat) ((gI l i - (i : Nat)) % (n : Nat)) (gI l i - (i : Nat)) := .mod _
    have next : ∀ t : Int, 0 ≤ t → t ≤ n → Cg (n : Nat) t (gI l i - (i : Nat)) → ∀ b1 b2 b3 b4, ∃ ts' a b c d, ts'.length = i + 1 ∧ (∀ k < i + 1, 0 ≤ gI ts' k ∧ gI ts' k ≤ n ∧ ((k : Int) + gI ts' k) % (n : Nat) = gI l k) ∧ [Slot.fd, .val (.int (n : Nat)), b1, .own (ts.map .int ++ [.int t]), .val (lI l), .val (.int s), b2, b3, b4] = [.fd, .val (.int (n : Nat)), a, .own (ts'.map .int), .val (lI l), .val (.int s), b, c, d] := by
      intro t t0 t1 tc b1 b2 b3 b4
      refine ⟨ts ++ [t], _, _, _, _, by rw [List.length_append, hts]; rfl, fun k hk => ?_, by rw [List.map_append]; rfl⟩
      by_cases hki : k < i
      · have e : gI (ts ++ [t]) k = gI ts k := by unfold gI; rw [List.getD_eq_getElem?_getD, List.getD_eq_getElem?_getD, List.getElem?_append_left (by omega)]
        rw [e]
        exact hg k hki
      · have hk' : k = i := by omega
        subst hk'
        have e : gI (ts ++ [t]) k = t := by unfold gI; rw [List.getD_eq_getElem?_getD, List.getElem?_append_right (by omega), hts, Nat.sub_self]; rfl
        rw [e]
        refine ⟨t0, t1, ?_⟩
        have c2 : Cg (n : Nat) ((k : Int) + t) (gI l k) := by
          have := (Cg.refl (p := (n : Nat)) (k : Int)).add tc
          rwa [show (k : Int) + (gI l k - (k : Nat)) = gI l k by omega] at this
        exact ((Cg.mod _).trans c2).eq (modLt (by omega) _) gl
    by_cases hz : 0 < (gI l i - (i : Nat)) % (n : Nat)
    · refine js_appendF (i := 3) rfl (jf_if (k := true) (jt_is (jt_gt (je_var (n := 8) rfl) je_int) (decide_eq_true hz)) (fun _ => jf_of (je_var (n := 8) rfl) (js_nil ?_)) fun h => by cases h) (by rw [List.length_map]; omega)
      exact next _ md.1 (by omega) cg _ _ _ _
    · refine js_appendF (i := 3) rfl (jf_if (k := false) (jt_is (jt_gt (je_var (n := 8) rfl) je_int) (decide_eq_false hz)) (fun h => by cases h) fun _ => jf_op (fun X h => op_mul) (je_var (n := 1) rfl) (jf_call (ok_L_draw L) (by show 1 ≤ 1; decide) (i := 0) rfl (ja_cons je_int ja_nil) ⟨2, rfl, by decide, by decide, fun v v0 v1 => ⟨_, rd_I (cmul_l (by omega) (by omega)), js_nil ?_⟩⟩)) (by rw [List.length_map]; omega)
      have e0 : (gI l i - (i : Nat)) % (n : Nat) = 0 := by omega
      rw [e0] at cg
      have hv : v = 0 ∨ v = 1 := by omega
      refine next _ (Int.mul_nonneg (by omega) v0) ?_ ?_ _ _ _ _
      · rcases hv with rfl | rfl <;> omega
      · refine Cg.trans ?_ cg
        exact ⟨v, by omega⟩
  · obtain ⟨ts, b1, b2, b3, b4, hts, hg, rfl⟩ := hP'
    have hln : (rangeI 0 ((n : Nat) : Int)).length = n := by rw [len_rangeI]; omega
    rw [hln] at hts hg
    refine js_retF (jf_of (je_tupleO (n := 3) rfl (L.bl _ (by decide))) (hP ts ⟨hts, by omega, fun k hk => ⟨(hg k hk).1, (hg k hk).2.1⟩, fun i hi j hj e => ?_⟩))
    have hop : ∀ k < n, ((hopI ts k : Nat) : Int) = gI l k := fun k hk => by
      rw [hop_int (by omega)]
      unfold landI tAt
      rw [hts, Nat.mod_eq_of_lt hk]
      exact (hg k hk).2.2
    have e2 : gI l i = gI l j := by rw [← hop i hi, ← hop j hj, e]
    have q1 := gI_get (ws := l) (i := i) (by rw [hl.len]; exact hi)
    have q2 := gI_get (ws := l) (i := j) (by rw [hl.len]; exact hj)
    rw [e2, ← q2] at q1
    exact (List.getElem?_inj (by rw [hl.len]; exact hi) hl.nd).mp q1
end
end Sh


set_option Elab.async false
set_option linter.all false
set_option maxRecDepth 100000
set_option maxHeartbeats 40000000
set_option autoImplicit false
/-! W18: _law_book -/
namespace Sh
open PySem PySem.Spec
      PyProof.Rows L2
theorem Wd.set {p : Int} {n k : Nat} {r : List Int} {x : Int} (h : Wd p n r) (hx : 0 ≤ x ∧ x < p) : Wd p n (r.set k x) := by
  refine ⟨by rw [List.length_set, h.1], fun y hy => ?_⟩
  rcases List.mem_or_eq_of_mem_set hy with q | q
  · exact h.2 y q
  · rw [q]; exact hx
section
variable {P : Program} {w : World} {K :
      PySem.W.Frag} {mg : Str → Option Value} {base : Heap}
def R_L_book (args : List PyData) (Pd : PyData → Prop) : Prop := ∃ m : Int, args = [.int m] ∧ 1 ≤ m ∧ m ≤ 20 ∧ ∀ (p : Int) (n : Nat) (rows : List (List Int)), isP p → 1 ≤ n → (n : Int) ≤ m → Red p n rows → Asc rows → Pd (bookD p (n : Nat) rows)
theorem ok_L_book (L : Lib K mg fns bls) : Cal P w K mg base "_law_book" 3 (spF R_L_book) := by
  refine cal_feed (N := ["_law_feed_here", "_law_most_here", "_law_lap", "_law_base", "_law_many", "_law_rows", "_law_sort", "_law_row", "_law_k"]) (ps := ["_law_feed_here", "_law_most_here"]) (k := 2) L 57 rfl ⟨rfl, rfl, rfl, by decide +kernel, rfl, by decide +kernel, by decide +kernel⟩ (bind2 fun _ _ _ _ _ _ _ _ => rfl) ?_ ?_
  · rintro args d ⟨_, rfl, _⟩; rfl
  rintro args Pd ⟨m, rfl, m1, m2, hP⟩ fa
  refine js_unpackF (js := [3, 4]) (jf_tup (jaf_cons (jf_call (ok_L_pick L) (by show 2 ≤ 2; decide) (i := 0) rfl (ja_cons (je_lst (ja_cons je_int (ja_cons je_int (ja_cons je_int (ja_cons je_int (ja_cons je_int (ja_cons je_int (ja_cons je_int ja_nil)))))))) ja_nil) ⟨[2, 2, 3, 3, 5, 7, 13], rfl, by simp, by decide, fun p hp => ?_⟩))) (.one (.one .nil)) (h3 := fun env h => (swapped_env h).trans rfl)
  refine jaf_cons (jf_op (fun X h => op_add) je_int (jf_call (ok_L_draw L) (by show 1 ≤ 2; decide) (i := 0) rfl (ja_cons (je_var (n := 1) rfl) ja_nil) ⟨_, rfl, m1, by omega, fun v v0 v1 => ⟨_, rd_I0, jaf_nil ⟨by show 2 ≤ 1000000; decide, _, rfl, rfl, ?_⟩⟩⟩))
  have hp : isP p := by
    unfold isP
    simp at hp
    omega
  have hp1 := hp.two
  have hp2 := hp.le
  obtain ⟨n, hn⟩ : ∃ n : Nat, 1 + v = n := ⟨(1 + v).toNat, by omega⟩
  rw [hn]
  refine js_parNF (i := 5) (j := 6) (jn_lst ja_nil) (jf_call (ok_L_draw L) (by show 1 ≤ 2; decide) (i := 0) rfl (ja_cons je_int ja_nil) ⟨3, rfl, by decide, by decide, fun s s0 s1 => ?_⟩)
  refine js_forRF (j := 2) (M := fun ds' => ∃ (rows : List (List Int)) (a b c : Slot), rows.length ≤ 5 ∧ (∀ r ∈ rows, Wd p n r) ∧ ds' = [.fd, .val (.int m), a, .val (.int p), .val (.int (n : Nat)), .own (rows.map lI), .val (.int s), b, c])
    ?_ (fun ds' hM => ?_) (L.bl _ (by decide))
  · refine jf_call (ok_L_draw L) (by show 1 ≤ 2; decide) (i := 0) rfl (ja_cons (je_minL (M := min 5 ((n : Int) + 1)) (ns := [5, (n : Int) + 1]) (je_lst (ja_cons je_int (ja_cons (je_add (je_var (n := 4) rfl) je_int) ja_nil)) (by show 2 ≤ 1000000; decide)) ?_ ?_ (L.bl _ (by decide))) ja_nil) ⟨_, rfl, by omega, by omega, fun v v0 v1 => ⟨v, rfl, by omega, by omega,
      fun i ds' => ∃ (rows : List (List Int)) (a b c : Slot), rows.length = i ∧ (∀ r ∈ rows, Wd p n r) ∧ ds' = [.fd, .val (.int m), a, .val (.int p), .val (.int (n : Nat)), .own (rows.map lI), .val (.int s), b, c], ⟨[], _, _, _, rfl, fun r h => (List.not_mem_nil h).elim, rfl⟩, fun i ds' hi hP' => ?_, fun ds' hP' => ?_⟩⟩
    · by_cases h : 5 ≤ (n : Int) + 1
      · rw [Int.min_eq_left h]; exact List.mem_cons_self
      · rw [Int.min_eq_right (by omega)]; exact List.mem_cons_of_mem _ List.mem_cons_self
    · intro y hy
      rcases List.mem_cons.mp
            hy with rfl | hy
      · exact Int.min_le_left _ _
      · rw [List.mem_singleton.mp hy]; exact Int.min_le_right _ _
    · obtain ⟨rows, a1, a2, a3, hr, hw, rfl⟩ := hP'
      refine js_asgLcNF (i := 7) (own := [("_law_k", 8)]) rfl (fun i xs => ∃ r : List Int, xs = r.map .int ∧ r.length = i ∧ i ≤ n ∧ ∀ x ∈ r, 0 ≤ x ∧ x < p) ⟨[], rfl, rfl, Nat.zero_le _, fun x h => (List.not_mem_nil h).elim⟩ (fun i xs h => by obtain ⟨r, rfl, h1, h2, _⟩ := h; rw [List.length_map]; omega)
        (jw_range1 (j := 8) (je_var (n := 4) rfl) (L.bl _ (by decide)) (by omega)) (pg_nameS (j := 8)) rfl (by decide) (fun k a xs hk hI => jcf_nil ⟨fun _ => ?_, fun h => by cases h⟩) (fun xs hI => ?_) (hib := by show 7 < 9; decide)
      · obtain ⟨r, rfl, h1, h2, h3⟩ := hI
        obtain ⟨rfl, hkn⟩ := rangeI_at hk
        refine jf_call (ok_L_draw L) (by show 1 ≤ 2; decide) (i := 0) rfl (ja_cons (je_var (n := 3) rfl) ja_nil) ⟨p, rfl, by omega, by omega, fun v v0 v1 => ⟨r ++ [v], by rw [List.map_append]; rfl, by rw [List.length_append, h1]; rfl, hkn, fun x hx => ?_⟩⟩
        rcases List.mem_append.mp
              hx with q | q
        · exact h3 x q
        · rw [List.mem_singleton.mp q]; exact ⟨v0, v1⟩
      obtain ⟨r, rfl, h1, h2, h3⟩ := hI
      rw [len_rangeI, show ((n : Int) - 0).toNat = n by omega] at h1
      refine js_forM (P := fun _ ds' => ∃ r a, Wd p n r ∧ ds' = [.fd, .val (.int m), .val (.int (i : Nat)), .val (.int p), .val (.int (n : Nat)), .own (rows.map lI), .val (.int s), .own (r.map .int), a]) (jw_range1 (j := 8) (je_var (n := 4) rfl) (L.bl _ (by decide)) (by omega)) (pg_nameS (j := 8)) ⟨r, _, ⟨h1, h3⟩, rfl⟩ (fun k a ds' hk hP' => ?_) fun ds' hP' => ?_
      · obtain ⟨r, b1, hr, rfl⟩ := hP'
        obtain ⟨rfl, hkn⟩ := rangeI_at hk
        have ix : ∀ r : List Int, Wd p n r → ixN (r.map PyData.int).length ((k : Nat) : Int) = some k := fun r h => by rw [List.length_map, h.1]; exact ixN_nat hkn
        refine js_if (M := fun ds' => ∃ r, Wd p n r ∧ ds' = [.fd, .val (.int m), .val (.int (i : Nat)), .val (.int p), .val (.int (n : Nat)), .own (rows.map lI), .val (.int s), .own (r.map .int), .val (.int (k : Nat))])
          (jt_and2 (jt_eqI (je_var (n := 6) rfl) je_int) fun _ => (jt_eqI (je_mod (je_int1 (je_var (n := 8) rfl) (L.bl _ (by decide))) je_int (by decide)) je_int)) (fun hc => ?_) (fun hc => js_nil ⟨r, hr, rfl⟩) fun ds' hM => ?_
        · rw [Bool.and_eq_true] at hc
          have hk3 := of_decide_eq_true hc.2
          have hk1 : 1 ≤ k := by omega
          have e := atI_int (ws := r) (i := k - 1) (by rw [hr.1]; omega)
          rw [show ((k - 1 : Nat) : Int) = (k : Int) - 1 by omega] at e
          refine js_setI (i := 7) rfl (je_ixO (i := 7) rfl (je_sub (je_var (n := 8) rfl) je_int) e) (je_var (n := 8) rfl) (ix r hr) (js_nil ⟨r.set k (gI r (k - 1)), hr.set (hr.get (by omega) (by omega)), ?_⟩)
          rw [List.map_set]
          rfl
        · obtain ⟨r, hr, rfl⟩ := hM
          refine js_if (M := fun ds' => ∃ r, Wd p n r ∧ ds' = [.fd, .val (.int m), .val (.int (i : Nat)), .val (.int p), .val (.int (n : Nat)), .own (rows.map lI), .val (.int s), .own (r.map .int), .val (.int (k : Nat))])
            (jt_and2 (jt_eqI (je_var (n := 6) rfl) je_int) fun _ => (jt_eqI (je_mod (je_int1 (je_var (n := 8) rfl) (L.bl _ (by decide))) je_int (by decide)) je_int)) (fun hc => ?_) (fun hc => js_nil ⟨r, hr, rfl⟩) fun ds' hM => ?_
          · refine js_setI (i := 7) rfl je_int (je_var (n := 8) rfl) (ix r hr) (js_nil ⟨r.set k 0, hr.set (by omega), ?_⟩)
            rw [List.map_set]
            rfl
          · obtain ⟨r, hr, rfl⟩ := hM
            exact js_nil ⟨r, _, hr, rfl⟩
      · obtain ⟨r, b1, hr2, rfl⟩ := hP'
        refine js_freeze (i := 7) rfl (js_append (i := 5) rfl (je_var (n := 7) rfl) (by rw [List.length_map]; omega) (js_nil ⟨rows ++ [r], _, _, _, by rw [List.length_append, hr]; rfl, fun x hx => ?_, by rw [List.map_append]; rfl⟩))
        rcases List.mem_append.mp
              hx with q | q
        · exact hw x q
        · rw [List.mem_singleton.mp q]; exact hr2
    · obtain ⟨rows, a1, a2, a3, hr, hw, rfl⟩ := hP'
      exact ⟨rows, _, _, _, by omega, hw, rfl⟩
  · obtain ⟨rows, a1, a2, a3, hr, hw, rfl⟩ := hM
    obtain ⟨rR, rA, _, _⟩ := reduced_red hp hw
    exact js_freeze (i := 5) rfl (js_retF (jf_of (je_tup (ja_cons (je_var (n := 3) rfl) (ja_cons (je_var (n := 4) rfl) (ja_cons (je_call (ok_L_settled L) (by show 2 ≤ 2; decide) (ja_cons (je_var (n := 3) rfl) (ja_cons (je_var (n := 5) rfl) ja_nil)) ⟨p, n, rows, lI, rfl, rfl, hp, by omega, by omega, hw, .inl rfl⟩) ja_nil))) (by show 3 ≤ 1000000; decide)) (hP p n _ hp (by omega) (by omega) rR rA)))
end
end Sh


set_option Elab.async false
set_option linter.all false
set_option maxRecDepth 100000
set_option maxHeartbeats 40000000
set_option autoImplicit false
/-! W19: _law_bridged_book -/
namespace Sh
open PySem PySem.Spec
      PyProof.Rows L2
section
variable {P : Program} {w : World} {K :
      PySem.W.Frag} {mg : Str → Option Value} {base : Heap}
def R_L_bridged (args : List PyData) (Pd : PyData → Prop) : Prop := ∃ m : Int, args = [.int m] ∧ 2 ≤ m ∧ m ≤ 20 ∧ ∀ (p : Int) (n : Nat) (rows : List (List Int)), isP p → 1 ≤ n → (n : Int) ≤ m → Red p n rows → Asc rows → Pd (bookD p (n : Nat) rows)
theorem ok_L_bridged_book (L : Lib K mg fns bls) : Cal P w K mg base "_law_bridged_book" 3 (spF R_L_bridged) := by
  refine cal_feed (N := ["_law_feed_here", "_law_most_here", "_law_own", "_law_columns", "_law_lap", "_law_base", "_law_many", "_law_late", "_law_k", "_law_by", "_law_near", "_law_far", "_law_j", "_law_one", "_law_two", "_law_column"]) (ps := ["_law_feed_here", "_law_most_here"]) (k := 2) L 64 rfl ⟨rfl, rfl, rfl, by decide +kernel, rfl, by decide +kernel, by decide +kernel⟩ (bind2 fun _ _ _ _ _ _ _ _ => rfl) ?_ ?_
  · rintro args d ⟨_, rfl, _⟩; rfl
  rintro args Pd ⟨m, rfl, m1, m2, hP⟩ fa
  refine js_unpackF (js := [5, 6]) (jf_tup (jaf_cons (jf_call (ok_L_pick L) (by show 2 ≤ 2; decide) (i := 0) rfl (ja_cons (je_lst (ja_cons je_int (ja_cons je_int (ja_cons je_int (ja_cons je_int (ja_cons je_int (ja_cons je_int ja_nil))))))) ja_nil) ⟨[2, 3, 3, 5, 5, 7], rfl, by simp, by decide, fun p hp => ?_⟩))) (.one (.one .nil)) (h3 := fun env h => (swapped_env h).trans rfl)
  refine jaf_cons (jf_op (fun X h => op_add) je_int (jf_call (ok_L_draw L) (by show 1 ≤ 2; decide) (i := 0) rfl (ja_cons (je_sub (je_var (n := 1) rfl) je_int) ja_nil) ⟨_, rfl, by omega, by omega, fun v v0 v1 => ⟨_, rd_I0, jaf_nil ⟨by show 2 ≤ 1000000; decide, _, rfl, rfl, ?_⟩⟩⟩))
  have hp : isP p := by
    unfold isP
    simp at hp
    omega
  have hp1 := hp.two
  have hp2 := hp.le
  obtain ⟨n, hn⟩ : ∃ n : Nat, 2 + v = n := ⟨(2 + v).toNat, by omega⟩
  rw [hn]
  refine js_asgF (i := 2) (jf_lc (own := [("_law_k", 8)]) rfl (fun i xs => ∃ ns : List Nat, xs = ns.map (fun k : Nat => .int (k : Nat)) ∧ ns.length ≤ i ∧ i ≤ n ∧ ∀ k ∈ ns, k < n) ⟨[], rfl, Nat.le_refl _, Nat.zero_le _, fun k h => (List.not_mem_nil h).elim⟩ (fun i xs h => by obtain ⟨r, rfl, h1, h2, _⟩ := h; rw [List.length_map]; omega)
      (jw_range1 (j := 8) (je_var (n := 6) rfl) (L.bl _ (by decide)) (by omega)) (pg_nameS (j := 8)) rfl (by decide) (fun i a xs hi hI => jcf_one (jtf_cmp (fun X h => op_eq) (jf_call (ok_L_draw L) (by show 1 ≤ 2; decide) (i := 0) rfl (ja_cons je_int ja_nil) ⟨2, rfl, by decide, by decide, fun v v0 v1 => ⟨.int 0, _, je_int, rd_eqI, ?_⟩⟩) (nomark _))) fun xs hI => ?_) (hs := fun env h => swap_cell (by rw [h]; rfl))
  · obtain ⟨ns, rfl, h1, h2, h3⟩ := hI
    obtain ⟨rfl, hin⟩ := rangeI_at hi
    refine ⟨fun _ => jf_of (je_var (n := 8) rfl) ⟨ns ++ [i], by rw [List.map_append]; rfl, by rw [List.length_append, List.length_singleton]; omega, hin, fun k hk => ?_⟩, fun _ => ⟨ns, rfl, by omega, hin, h3⟩⟩
    rcases List.mem_append.mp hk with q | q
    · exact h3 k q
    · rw [List.mem_singleton.mp q]; exact hin
  obtain ⟨own, rfl, h1, _, h3⟩ := hI
  rw [len_rangeI, show ((n : Int) - 0).toNat = n by omega] at h1
  refine js_asgN (i := 3) (jn_lc (pr := fun _ => true) (f := fun k : Int => lI (own.map fun j : Nat => if decide (k = (j : Nat)) = true then 1 else 0)) (own := [("_law_k", 8)]) rfl (jw_range1 (j := 8) (je_var (n := 6) rfl) (L.bl _ (by decide)) (by omega)) (pg_nameS (j := 8)) rfl (by decide) (by rw [len_rangeI]; omega) (fun a _ => jc_nil)
    fun k hm _ => JE.is (je_lcm (f := fun j : Nat => .int (if decide (k = (j : Nat)) = true then 1 else 0)) (own := [("_law_j", 12)]) rfl (jw_list (j := 12) (enc := fun j : Nat => .int (j : Nat)) (items := own) (je_var (n := 2) rfl)) (pg_nameS (j := 12)) (fun j hm => (je_intB (je_eqI (je_var (n := 8) rfl) (je_var (n := 12) rfl)) (L.bl _ (by decide)))) (by omega)) (by unfold lI lstE; rw [List.map_map]; rfl)) ?_ (hs := fun env h => swap_cell (by rw [h]; rfl))
  have cols0 : ∃ cols : List (List Int), (((rangeI 0 ((n : Nat) : Int)).filter fun _ => true).map fun k : Int => lI (own.map fun j : Nat => if decide (k = (j : Nat)) = true then 1 else 0)) = cols.map lI ∧ cols.length = n ∧ ∀ c ∈ cols, Wd p own.length c := by
    refine ⟨(rangeI 0 ((n : Nat) : Int)).map fun k : Int => own.map fun j : Nat => if decide (k = (j : Nat)) = true then 1 else 0, by rw [filt_all, List.map_map]; rfl, by rw [List.length_map, len_rangeI]; omega, fun c hc => ?_⟩
    obtain ⟨k, _, rfl⟩ := List.mem_map.mp hc
    refine ⟨List.length_map _, fun x hx => ?_⟩
    obtain ⟨j, _, rfl⟩ := List.mem_map.mp hx
    split <;> omega
  obtain ⟨cols, ec, hcl, hcw⟩ := cols0
  rw [ec]
  refine js_forRF (j := 4) (M := fun ds' => ∃ (cols : List (List Int)) (a b c d e f g h i : Slot), cols.length = n ∧ (∀ c ∈ cols, Wd p own.length c) ∧ ds' = [.fd, .val (.int m), .val (lN own), .own (cols.map lI), a, .val (.int p), .val (.int (n : Nat)), b, c, d, e, f, g, h, i, .unk]) ?_ (fun ds' hM => ?_) (L.bl _ (by decide))
  · refine jf_call (ok_L_draw L) (by show 1 ≤ 2; decide) (i := 0) rfl (ja_cons (je_add (je_mul je_int (je_var (n := 6) rfl) (cmul_l (by decide) (by decide))) je_int) ja_nil) ⟨_, rfl, by omega, by omega, fun v v0 v1 => ⟨v, rfl, by omega, by omega,
      fun _ ds' => ∃ (cols : List (List Int)) (a b c d e f g h i : Slot), cols.length = n ∧ (∀ c ∈ cols, Wd p own.length c) ∧ ds' = [.fd, .val (.int m), .val (lN own), .own (cols.map lI), a, .val (.int p), .val (.int (n : Nat)), b, c, d, e, f, g, h, i, .unk], ⟨cols, _, _, _, _, _, _, _, _, _, hcl, hcw, rfl⟩, fun i ds' hi hP' => ?_, fun ds' hP' => hP'⟩⟩
    obtain ⟨cols, a1, a2, a3, a4, a5, a6, a7, a8, a9, hcl, hcw, rfl⟩ := hP'
    refine js_unpackF (js := [8, 9]) (jf_tup (jaf_cons (jf_call (ok_L_draw L) (by show 1 ≤ 2; decide) (i := 0) rfl (ja_cons (je_var (n := 6) rfl) ja_nil) ⟨_, rfl, by omega, by omega, fun k k0 k1 => ?_⟩))) (.one (.one .nil)) (h3 := fun env h => (swapped_env h).trans rfl)
    refine jaf_cons (jf_op (fun X h => op_add) je_int (jf_call (ok_L_draw L) (by show 1 ≤ 2; decide) (i := 0) rfl (ja_cons (je_sub (je_var (n := 5) rfl) je_int) ja_nil) ⟨_, rfl, by omega, by omega, fun u u0 u1 => ⟨_, rd_I0, jaf_nil ⟨by show 2 ≤ 1000000; decide, _, rfl, rfl, ?_⟩⟩⟩))
    obtain ⟨k, rfl⟩ : ∃ k' : Nat, k = k' := ⟨k.toNat, by omega⟩
    obtain ⟨ml0, ml1⟩ := modLt (show (0 : Int) < (n : Nat) by omega) ((k : Int) + 1)
    obtain ⟨late, hlate⟩ : ∃ l : Nat, ((k : Int) + 1) % (n : Nat) = l := ⟨(((k : Int) + 1) % (n : Nat)).toNat, by omega⟩
    refine js_asgE (i := 7) (je_mod (je_int1 (je_add (je_var (n := 8) rfl) je_int) (L.bl _ (by decide))) (je_var (n := 6) rfl) (by omega)) (d := .int (late : Nat)) (by rw [hlate]) ?_
    have col : ∀ i < n, ∃ c, cols[i]? = some c ∧ Wd p own.length c := fun i hi => ⟨cols[i]'(by omega), List.getElem?_eq_getElem (by omega), hcw _ (List.getElem_mem (by omega))⟩
    obtain ⟨c1, e1, w1⟩ := col late (by omega)
    obtain ⟨c2, e2, w2⟩ := col k (by omega)
    refine js_par2 (i := 10) (j := 11) (x := lI c1) (y := lI c2) (je_ixO (i := 3) rfl (je_var (n := 7) rfl) (atI_nat (by rw [List.getElem?_map, e1]; rfl))) (je_ixO (i := 3) rfl (je_var (n := 8) rfl) (atI_nat (by rw [List.getElem?_map, e2]; rfl))) ?_
    refine js_setI (i := 3) (jj := late) (d := lI ((c1.zip c2).map fun q : Int × Int => (q.1 + (1 + u) * q.2) % p)) rfl (JE.is (je_lcm (f := fun q : Int × Int => .int ((q.1 + (1 + u) * q.2) % p)) (own := [("_law_one", 13), ("_law_two", 14)]) rfl (jw_zipL (j1 := 13) (j2 := 14) (enc := PyData.int) (enc2 := PyData.int) (items := c1) (ys := c2) (je_var (n := 10) rfl) (je_var (n := 11) rfl) (L.bl _ (by decide))) (pg_twoS (j1 := 13) (j2 := 14))
      (fun q hm => je_mod (je_int1 (je_add (je_var (n := 13) rfl) (je_mul (je_var (n := 9) rfl) (je_var (n := 14) rfl) (cmul_l (by omega) (by omega)))) (L.bl _ (by decide))) (je_var (n := 5) rfl) (by omega)) (by rw [List.length_zip, w1.1, w2.1]; omega)) (by unfold lI lstE; rw [List.map_map]; rfl)) (je_var (n := 7) rfl) (by rw [List.length_map]; exact ixN_nat (by omega)) (js_nil ?_)
    refine ⟨cols.set late ((c1.zip c2).map fun q : Int × Int => (q.1 + (1 + u) * q.2) % p), .val (.int (i : Nat)), .val (.int (late : Nat)), .val (.int (k : Nat)), .val (.int (1 + u)), .val (lI c1), .val (lI c2), a7, a8, a9, by rw [List.length_set]; exact hcl, fun c hc => ?_, ?_⟩
    · rcases List.mem_or_eq_of_mem_set hc with q | q
      · exact hcw c q
      · rw [q]
        refine ⟨by rw [List.length_map, List.length_zip, w1.1, w2.1]; omega, fun x hx => ?_⟩
        obtain ⟨z, _, rfl⟩ := List.mem_map.mp hx
        exact modLt (by omega) _
    · rw [List.map_set]
      rfl
  · obtain ⟨cols, a1, a2, a3, a4, a5, a6, a7, a8, a9, hcl, hcw, rfl⟩ := hM
    have rw_ : ∀ r ∈ (List.range own.length).map fun j => cols.map fun c => gI c j, Wd p n r := fun r hr => by
      obtain ⟨j, hj, rfl⟩ := List.mem_map.mp hr
      have hj := List.mem_range.mp hj
      refine ⟨by rw [List.length_map, hcl], fun x hx => ?_⟩
      obtain ⟨c, hc, rfl⟩ := List.mem_map.mp hx
      exact (hcw c hc).get hj (by omega)
    obtain ⟨rR, rA, _, _⟩ := reduced_red hp rw_
    refine js_freeze (i := 3) rfl (js_retF (jf_of (je_tup (ja_cons (je_var (n := 5) rfl) (ja_cons (je_var (n := 6) rfl) (ja_cons (je_call (ok_L_settled L) (by show 2 ≤ 2; decide) (ja_cons (je_var (n := 5) rfl) (ja_cons (JE.is (je_lcm (f := fun j : Int => lI (cols.map fun c => gI c j.toNat)) (own := [("_law_j", 12)]) rfl (jw_range1 (j := 12) (JE.is (je_len (je_var (n := 2) rfl) (.l _) (L.bl _ (by decide))) (y := .int (own.length : Nat)) (by rw [List.length_map])) (L.bl _ (by decide)) (by omega)) (pg_nameS (j := 12)) (fun v_j hm => ?_) (by rw [len_rangeI]; omega)) (y := lLI ((List.range own.length).map fun j => cols.map fun c => gI c j)) ?_) ja_nil)) ⟨p, n, _, lI, rfl, rfl, hp, by omega, by rw [List.length_map, List.length_range]; omega, rw_, .inl rfl⟩) ja_nil))) (by show 3 ≤ 1000000; decide)) (hP p n _ hp (by omega) (by omega) rR rA)))
    · obtain ⟨j, rfl, hj⟩ := range_nat hm
      exact JE.is (je_lcm (f := fun c : List Int => .int (gI c j)) (own := [("_law_column", 15)]) rfl (jw_list (j := 15) (enc := lI) (items := cols) (je_var (n := 3) rfl)) (pg_nameS (j := 15)) (fun c hc => je_ixL (je_var (n := 15) rfl) (je_var (n := 12) rfl) (atI_int (by rw [(hcw c hc).1]; exact hj))) (by omega)) (by unfold lI lstE; rw [List.map_map]; rfl)
    · rw [map_range]
      unfold lLI lstE
      rw [List.map_map]
      rfl
end
end Sh


set_option Elab.async false
set_option linter.all false
set_option maxRecDepth 100000
set_option maxHeartbeats 40000000
set_option autoImplicit false
/-! W20: _law_most, _law_are_stretches_right -/
namespace Sh
open PySem PySem.Spec
      PyProof.Rows L2
theorem rangeI_at1 {n i : Nat} {a : Int} (h : (rangeI 1 ((n : Int) + 1))[i]? = some a) : a = (i : Int) + 1 ∧ i < n := by
  unfold rangeI at h
  rw [List.getElem?_map, show ((n : Int) + 1 - 1).toNat = n by omega] at h
  by_cases hi : i < n
  · rw [List.getElem?_range hi] at h
    cases h
    exact ⟨(by show (1 : Int) + (i : Int) = _; omega), hi⟩
  · rw [List.getElem?_eq_none (by rw [List.length_range]; omega)] at h
    cases h
section
variable {P : Program} {w : World} {K :
      PySem.W.Frag} {mg : Str → Option Value} {base : Heap}
def R_L_most (args : List PyData) (d : PyData) : Prop := ∃ (t : Int) (l : List Int) (n : Nat), args = [tI (t :: l)] ∧ d = lI [(n : Int) - l.foldl max t, l.foldl min t] ∧ Pat n (t :: l) ∧ n ≤ 60
theorem ok_L_most (L : Lib K mg fns bls) : Cal P w K mg base "_law_most" 2 (spP R_L_most) := by
  refine cal_pure (N := ["_law_some", "_law_length", "_law_many", "_law_count", "_law_burst", "_law_window", "_law_ranks", "_law_start"]) (ps := ["_law_some"]) (k := 1) L 66 rfl ⟨rfl, rfl, rfl, by decide +kernel, rfl, by decide +kernel, by decide +kernel⟩ (bind1 fun _ _ _ _ _ _ _ => rfl) ?_ ?_
  · rintro args d ⟨_, _, _, rfl, _⟩; rfl
  rintro args d ⟨t, l, n, rfl, rfl, hT, hn⟩ fa
  obtain ⟨x1, x2⟩ := foldMax l t
  obtain ⟨y1, y2⟩ := foldMin l t
  generalize l.foldl max t = mx at x1 x2 ⊢
  generalize l.foldl min t = mn at y1 y2 ⊢
  generalize hts : t :: l = ts at *
  have hlen := hT.len
  have hpos := hT.pos
  obtain ⟨_, _, ex1, ex2⟩ := hT.all x1
  obtain ⟨_, _, ey1, ey2⟩ := hT.all y1
  have bx := hT.at_ ‹Nat›
  have mx0 : 0 ≤ mx ∧ mx ≤ n := by rw [← ex2]; exact hT.at_ _
  have mn0 : 0 ≤ mn ∧ mn ≤ n := by rw [← ey2]; exact hT.at_ _
  refine js_unpack (js := [2, 3, 4, 5]) (je_tup (ja_cons (JE.is (je_len (je_var (n := 0) rfl) (.t _) (L.bl _ (by decide))) (y := .int (n : Nat)) (by rw [List.length_map, hlen])) (ja_cons (je_call (ok_L_balls L) (by show 1 ≤ 1; decide) (ja_cons (je_var (n := 0) rfl) ja_nil) ⟨ts, rfl, rfl, by omega, by omega⟩) (ja_cons je_int (ja_cons je_int ja_nil)))) (by show 4 ≤ 1000000; decide)) (.one (.one (.one (.one .nil)))) rfl ?_ (h3 := fun env h => (swapped_env h).trans rfl)
  refine js_forM (P := fun i ds' => ∃ a b c, ds' = [.val (tI ts), a, .val (.int (n : Nat)), .val (.int (ballsI ts)), .val (.int (min (i : Int) (n - mx))), .val (.int (min (i : Int) mn)), b, c]) (jw_range2 (j := 1) je_int (je_add (je_var (n := 2) rfl) je_int) (L.bl _ (by decide)) ⟨by omega, by omega, by omega, by omega⟩) (pg_nameS (j := 1)) ⟨.unk, .unk, .unk, ?_⟩ (fun i a ds' hi hP => ?_) fun ds' hP => ?_
  · rw [show min (((0 : Nat) : Int)) ((n : Int) - mx) = 0 by omega, show min (((0 : Nat) : Int)) mn = 0 by omega]
    rfl
  · obtain ⟨a1, a2, a3, rfl⟩ := hP
    obtain ⟨rfl, hin⟩ := rangeI_at1 hi
    have rk : ∀ s l : Nat, l ≤ n → R_L_rank [tI ts, .int (s : Nat), .int (l : Nat)] (.int (rankI ts s l)) := fun s l hl => ⟨ts, s, l, rfl, rfl, by omega, by omega⟩
    have nm : ∀ s : Nat, ((s : Int) + ((i : Int) + 1)) % (n : Nat) = ((s + (i + 1)) % n : Nat) := fun s => by rw [nat_mod]; rfl
    refine js_asgM (f := fun s : Int => .int (rankI ts ((s.toNat + (i + 1)) % n) (n - (i + 1)))) (i := 6) (own := [("_law_start", 7)]) rfl (jw_range1 (j := 7) (je_var (n := 2) rfl) (L.bl _ (by decide)) (by omega)) (pg_nameS (j := 7)) (fun v_start hm => ?_) (by rw [len_rangeI]; omega) (d := lI ((List.range n).map fun s => rankI ts ((s + (i + 1)) % n) (n - (i + 1)))) ?_ ?_
    · obtain ⟨s, rfl, hs⟩ := range_nat hm
      exact je_call (ok_L_rank L) (by show 1 ≤ 1; decide) (ja_cons (je_var (n := 0) rfl) (ja_cons (JE.is (je_mod (je_int1 (je_add (je_var (n := 7) rfl) (je_var (n := 1) rfl)) (L.bl _ (by decide))) (je_var (n := 2) rfl) (by omega)) (y := .int ((s + (i + 1)) % n : Nat)) (by rw [nm])) (ja_cons (JE.is (je_sub (je_var (n := 2) rfl) (je_var (n := 1) rfl)) (y := .int (n - (i + 1) : Nat)) (by congr 1; omega)) ja_nil))) (rk _ _ (by omega))
    · rw [map_range]
      unfold lI lstE
      rw [List.map_map]
      rfl
    obtain ⟨M, hM1, hM2⟩ := least_ex (fun s => rankI ts ((s + (i + 1)) % n) (n - (i + 1))) hpos
    obtain ⟨W, hW1, hW2⟩ := least_ex (fun s => rankI ts s (i + 1)) hpos
    have allM : M = ballsI ts ↔ ((i : Int) + 1) ≤ n - mx := by
      rw [show ((i : Int) + 1) = ((i + 1 : Nat) : Int) by omega, ← hT.burst x1 x2 (l := i + 1) (by omega) (by omega)]
      constructor
      · intro e s hs
        have a := hM2 _ (List.mem_map.mpr ⟨s, List.mem_range.mpr hs, rfl⟩)
        have b := hT.rankLe (s := s) (l := i + 1) (by omega)
        omega
      · intro h
        obtain ⟨s, hs, e⟩ := List.mem_map.mp hM1
        rw [← e]
        exact h s (List.mem_range.mp hs)
    have allW : W = (i : Int) + 1 ↔ ((i : Int) + 1) ≤ mn := by
      rw [show ((i : Int) + 1) = ((i + 1 : Nat) : Int) by omega, ← hT.window y1 y2 (l := i + 1) (by omega)]
      constructor
      · intro e s hs
        have a := hW2 _ (List.mem_map.mpr ⟨s, List.mem_range.mpr hs, rfl⟩)
        have b := rank_le ts s (i + 1)
        omega
      · intro h
        obtain ⟨s, hs, e⟩ := List.mem_map.mp hW1
        rw [← e]
        exact h s (List.mem_range.mp hs)
    refine js_if (M := fun ds' => ∃ a b c, ds' = [.val (tI ts), .val (.int ((i : Int) + 1)), .val (.int (n : Nat)), .val (.int (ballsI ts)), .val (.int (min ((i + 1 : Nat) : Int) (n - mx))), .val (.int (min (i : Int) mn)), b, c] ∧ a = 0) (jt_and2 (jt_eqI (je_var (n := 4) rfl) (je_sub (je_var (n := 1) rfl) je_int)) fun _ => (jt_eqI (je_minL (je_var (n := 6) rfl) hM1 hM2 (L.bl _ (by decide))) (je_var (n := 3) rfl))) (fun hc => ?_) (fun hc => js_nil ⟨0, .val (lI ((List.range n).map fun s => rankI ts ((s + (i + 1)) % n) (n - (i + 1)))), a3, ?_, rfl⟩) fun ds' hM => ?_
    · rw [Bool.and_eq_true, decide_eq_true_eq, decide_eq_true_eq] at hc
      have := allM.mp hc.2
      refine js_asgE (i := 4) (je_var (n := 1) rfl) (d := .int (min ((i + 1 : Nat) : Int) (n - mx))) (by congr 1; omega) (js_nil ⟨0, _, _, rfl, rfl⟩)
    · rw [Bool.and_eq_false_iff, decide_eq_false_iff_not, decide_eq_false_iff_not, allM] at hc
      rw [show min ((i + 1 : Nat) : Int) (n - mx) = min (i : Int) (n - mx) by omega]
      rfl
    · obtain ⟨_, b1, b2, rfl, rfl⟩ := hM
      refine js_iff (jt_and2 (jt_eqI (je_var (n := 5) rfl) (je_sub (je_var (n := 1) rfl) je_int)) fun _ => (jt_eqI (je_minL (ns := (List.range n).map fun s => rankI ts s (i + 1)) (JE.is (je_lcm (f := fun s : Int => .int (rankI ts s.toNat (i + 1))) (own := [("_law_start", 7)]) rfl (jw_range1 (j := 7) (je_var (n := 2) rfl) (L.bl _ (by decide)) (by omega)) (pg_nameS (j := 7)) (fun v_start hm => ?_) (by rw [len_rangeI]; omega)) ?_) hW1 hW2 (L.bl _ (by decide))) (je_var (n := 1) rfl))) (fun hc => ?_) fun hc => js_nil (js_nil ⟨.val (.int ((i : Int) + 1)), b1, b2, ?_⟩)
      · obtain ⟨s, rfl, hs⟩ := range_nat hm
        exact je_call (ok_L_rank L) (by show 1 ≤ 1; decide) (ja_cons (je_var (n := 0) rfl) (ja_cons (je_var (n := 7) rfl) (ja_cons (JE.is (je_var (n := 1) rfl) (y := .int (i + 1 : Nat)) (by congr 1)) ja_nil))) (rk _ _ (by omega))
      · rw [map_range]
        unfold lstE
        rw [List.map_map]
        rfl
      · rw [Bool.and_eq_true, decide_eq_true_eq, decide_eq_true_eq] at hc
        have := allW.mp hc.2
        refine js_asgE (i := 5) (je_var (n := 1) rfl) (d := .int (min ((i + 1 : Nat) : Int) mn)) (by congr 1; omega) (js_nil (js_nil ⟨.val (.int ((i : Int) + 1)), _, _, rfl⟩))
      · rw [Bool.and_eq_false_iff, decide_eq_false_iff_not, decide_eq_false_iff_not, allW] at hc
        rw [show min ((i + 1 : Nat) : Int) mn = min (i : Int) mn by omega]
  · obtain ⟨a1, a2, a3, rfl⟩ := hP
    refine js_retE (je_lst (ja_cons (je_var (n := 4) rfl) (ja_cons (je_var (n := 5) rfl) ja_nil)) (by show 2 ≤ 1000000; decide)) ?_ rfl
    have hl : (rangeI 1 ((n : Int) + 1)).length = n := by rw [len_rangeI]; omega
    rw [hl, show min (n : Int) (n - mx) = n - mx by omega, show min (n : Int) mn = mn by omega]
    rfl
theorem ok_mends_burst (L : Lib K mg fns bls) : Cal P w K mg base "mends_burst" 6 (spP R_mends_burst) := (at_mends_burst L).cal (bind2 fun _ _ _ _ _ _ _ _ => rfl)
theorem ok_open_rank (L : Lib K mg fns bls) : Cal P w K mg base "open_rank" 6 (spP R_open_rank) := (at_open_rank L).cal (bind2 fun _ _ _ _ _ _ _ _ => rfl)
def R_L_are_stretches_right (args : List PyData) (d : PyData) : Prop := ∃ (n : Nat) (ts : List Int), args = [tI ts] ∧ d = .bool true ∧ Pat n ts ∧ n ≤ 60
theorem ok_L_are_stretches_right (L : Lib K mg fns bls) : CalG P w K mg base "_law_are_stretches_right" 7 (spP R_L_are_stretches_right) := by
  refine cal_pureG (N := ["_law_some", "_law_start", "_law_many", "_law_count", "_law_length", "_law_open_now", "_law_far", "_law_told", "_law_k"]) (ps := ["_law_some"]) (k := 6) L 65 rfl ⟨rfl, rfl, rfl, by decide +kernel, rfl, by decide +kernel, by decide +kernel⟩ (bind1 fun _ _ _ _ _ _ _ => rfl) ?_ ?_
  · rintro args d ⟨_, _, rfl, _⟩; rfl
  rintro args d ⟨n, ts, rfl, rfl, hT, hn⟩ fa
  have hlen := hT.len
  have hpos := hT.pos
  refine js_unpack (js := [2, 3]) (je_tup (ja_cons (JE.is (je_len (je_var (n := 0) rfl) (.t _) (L.bl _ (by decide))) (y := .int (n : Nat)) (by rw [List.length_map, hlen])) (ja_cons (je_call (ok_L_balls L) (by show 1 ≤ 6; decide) (ja_cons (je_var (n := 0) rfl) ja_nil) ⟨ts, rfl, rfl, by omega, by omega⟩) ja_nil)) (by show 2 ≤ 1000000; decide)) (.one (.one .nil)) rfl ?_ (h3 := fun env h => (swapped_env h).trans rfl)
  refine js_forM (P := fun _ ds' => ∃ a b c d e f, ds' = [.val (tI ts), a, .val (.int (n : Nat)), .val (.int (ballsI ts)), b, c, d, e, f]) (jw_range1 (j := 1) (je_var (n := 2) rfl) (L.bl _ (by decide)) (by omega)) (pg_nameS (j := 1)) ⟨_, _, _, _, _, _, rfl⟩ (fun i a ds' hi hP => ?_) fun ds' hP => ?_
  · obtain ⟨a1, a2, a3, a4, a5, a6, rfl⟩ := hP
    obtain ⟨rfl, hin⟩ := rangeI_at hi
    refine js_forM (P := fun _ ds' => ∃ b c d e f, ds' = [.val (tI ts), .val (.int (i : Nat)), .val (.int (n : Nat)), .val (.int (ballsI ts)), b, c, d, e, f]) (jw_range1 (j := 4) (je_add (je_var (n := 2) rfl) je_int) (L.bl _ (by decide)) (by omega)) (pg_nameS (j := 4)) ⟨_, _, _, _, _, rfl⟩ (fun l a ds' hl hP => ?_) fun ds' hP => ?_
    · obtain ⟨a1, a2, a3, a4, a5, rfl⟩ := hP
      obtain ⟨rfl, hln⟩ := rangeI_at (n := n + 1) hl
      have ho := hT.open_ (s := i) (l := l) (by omega)
      have small : (openI ts i l).natAbs < 1000000 := by
        have : (farI ts i l).length ≤ l := by unfold farI; have := List.length_filter_le (fun k : Nat => decide ((ts.length : Int) - (k : Nat) ≤ tAt ts (i + k))) (List.range l); rw [List.length_range] at this; exact this
        omega
      have nm : ((i : Int) + (l : Int)) % (n : Nat) = ((i + l) % n : Nat) := by rw [nat_mod]; rfl
      refine js_asgE (i := 5) (je_sub (je_var (n := 3) rfl) (je_call (ok_L_rank L) (by show 1 ≤ 6; decide) (ja_cons (je_var (n := 0) rfl) (ja_cons (JE.is (je_mod (je_int1 (je_add (je_var (n := 1) rfl) (je_var (n := 4) rfl)) (L.bl _ (by decide))) (je_var (n := 2) rfl) (by omega)) (y := .int ((i + l) % n : Nat)) (by rw [nm])) (ja_cons (JE.is (je_sub (je_var (n := 2) rfl) (je_var (n := 4) rfl)) (y := .int (n - l : Nat)) (by congr 1; omega)) ja_nil))) ⟨ts, (i + l) % n, n - l, rfl, rfl, by omega, by omega⟩)) (d := .int (openI ts i l)) (by unfold openI; rw [hlen]) ?_
      refine js_asgFl (pr := fun k : Int => decide ((n : Int) - k ≤ tAt ts (i + k.toNat))) (f := fun k : Int => .int k) (i := 6) (own := [("_law_k", 8)]) rfl (jw_range1 (j := 8) (je_var (n := 4) rfl) (L.bl _ (by decide)) (by omega)) (pg_nameS (j := 8)) (fun v_k hm => ?_) (fun v_k hm hp => (je_var (n := 8) rfl)) (by rw [len_rangeI]; omega) (d := lN (farI ts i l)) ?_ ?_
      · obtain ⟨k, rfl, hk⟩ := range_nat hm
        have hb : (i + k) % n < ts.length := by rw [hlen]; exact Nat.mod_lt _ hpos
        exact jt_ge (je_ixT (je_var (n := 0) rfl) (JE.is (je_mod (je_int1 (je_add (je_var (n := 1) rfl) (je_var (n := 8) rfl)) (L.bl _ (by decide))) (je_var (n := 2) rfl) (by omega)) (y := .int ((i + k) % n : Nat)) (by congr 1)) (d := .int (tAt ts (i + k))) (by unfold tAt; rw [hlen]; exact atI_int hb)) (je_sub (je_var (n := 2) rfl) (je_var (n := 8) rfl))
      · rw [filt_range]
        unfold lN lstE farI
        rw [hlen]
        rfl
      have eqn : ∀ {S : SC} {ds : List Slot} {e e2 : Expr} {pos : Pos}, JE S ds e (lN (farI ts i l)) → JE S ds e2 (.list []) → JE S ds (.Compare e [.Eq] [e2] pos) (.bool (decide (openI ts i l = 0))) := fun h1 h2 => JE.is (je_eqD 3 h1 h2 (by
          show (List.map _ _).all (okD 2) = true
          rw [List.all_map]
          exact List.all_eq_true.mpr fun _ _ => rfl) rfl) (by
        rw [show lN (farI ts i l) = PyData.list _ from rfl, eqv_nilL, List.isEmpty_map]
        congr 1
        rw [Bool.eq_iff_iff, List.isEmpty_iff, decide_eq_true_eq, hT.open0 (by omega)])
      refine js_asgE (i := 7) (je_lst (ja_cons (je_call (ok_mends_burst L) (by show 6 ≤ 6; decide) (ja_cons (je_var (n := 0) rfl) (ja_cons (je_tup (ja_cons (je_var (n := 1) rfl) (ja_cons (je_var (n := 4) rfl) ja_nil)) (by show 2 ≤ 1000000; decide)) ja_nil)) ⟨ts, i, l, rfl, rfl, by omega, by omega, by omega⟩) (ja_cons (je_call (ok_open_rank L) (by show 6 ≤ 6; decide) (ja_cons (je_var (n := 0) rfl) (ja_cons (je_tup (ja_cons (je_var (n := 1) rfl) (ja_cons (je_var (n := 4) rfl) ja_nil)) (by show 2 ≤ 1000000; decide)) ja_nil)) ⟨ts, i, l, rfl, rfl, by omega, by omega, by omega⟩) (ja_cons (je_eqI (je_var (n := 5) rfl) je_int) ja_nil))) (by show 3 ≤ 1000000; decide)) rfl ?_
      refine js_ifNo (jt_not (jt_val (k := true) (je_callG (ok_L_same L) rfl (by show 1 ≤ 6; decide) (ja_cons (je_var (n := 7) rfl) (ja_cons (je_lst (ja_cons (eqn (je_var (n := 6) rfl) (je_lst ja_nil)) (ja_cons (je_var (n := 5) rfl) (ja_cons (eqn (je_var (n := 6) rfl) (je_lst ja_nil)) ja_nil))) (by show 3 ≤ 1000000; decide)) ja_nil)) ⟨_, rfl, rfl, by simp [smD, small]⟩))) rfl (js_nil ⟨_, _, _, _, _, rfl⟩)
    · obtain ⟨a1, a2, a3, a4, a5, rfl⟩ := hP
      exact js_nil ⟨_, _, _, _, _, _, rfl⟩
  · obtain ⟨a1, a2, a3, a4, a5, a6, rfl⟩ := hP
    exact js_retE je_bl rfl rfl
end
end Sh


set_option Elab.async false
set_option linter.all false
set_option maxRecDepth 100000
set_option maxHeartbeats 40000000
set_option autoImplicit false
/-! W21: _law_are_menders_right -/
namespace Sh
open PySem PySem.Spec
      PyProof.Rows L2
theorem sm_tN {ws : List Nat} {k : Nat} (h : ws.length ≤ 12) (h2 : ∀ x ∈ ws, x < 1000000) : smD (k + 1) (tN ws) = true := by
  show (decide ((ws.map fun k : Nat => PyData.int (k : Nat)).length ≤ 12) && (ws.map fun k : Nat => PyData.int (k : Nat)).all (smD k)) = true
  rw [List.length_map, decide_eq_true h, Bool.true_and, List.all_map]
  refine List.all_eq_true.mpr fun x hx => ?_
  have := h2 x hx
  have e : ∀ k, smD k (.int (x : Nat)) = true := fun k => by
    have : decide ((x : Int).natAbs < 1000000) = true := decide_eq_true (by omega)
    cases k <;> exact this
  exact e k
theorem ring_len (n s l : Nat) : (ringI n s l).length = l := by unfold ringI; rw [List.length_map, List.length_range]
theorem eqv_int (a b : Int) : PyData.eqv (.int a) (.int b) = decide (a = b) := by
  show (a == b) = decide (a = b)
  rw [Bool.eq_iff_iff,
        beq_iff_eq, decide_eq_true_eq]
section
variable {P : Program} {w : World} {K :
      PySem.W.Frag} {mg : Str → Option Value} {base : Heap}
theorem ok_next_ones (L : Lib K mg fns bls) : Cal P w K mg base "next_ones" 5 (spP R_next_ones) := (at_next_ones L).cal (bind2 fun _ _ _ _ _ _ _ _ => rfl)
theorem ok_ones_before (L : Lib K mg fns bls) : Cal P w K mg base "ones_before" 5 (spP R_ones_before) := (at_ones_before L).cal (bind2 fun _ _ _ _ _ _ _ _ => rfl)
theorem ok_chain_of (L : Lib K mg fns bls) : Cal P w K mg base "chain_of" 5 (spP R_chain_of) := (at_chain_of L).cal (bind2 fun _ _ _ _ _ _ _ _ => rfl)
def R_L_are_menders_right (args : List PyData) (d : PyData) : Prop := ∃ (n : Nat) (ts : List Int), args = [tI ts] ∧ d = .bool true ∧ Pat n ts ∧ n ≤ 12
theorem ok_L_are_menders_right (L : Lib K mg fns bls) : CalG P w K mg base "_law_are_menders_right" 6 (spP R_L_are_menders_right) := by
  refine cal_pureG (N := ["_law_some", "_law_many", "_law_k", "_law_lands", "_law_early", "_law_due", "_law_lap", "_law_told", "_law_chain", "_law_here", "_law_j"]) (ps := ["_law_some"]) (k := 5) L 67 rfl ⟨rfl, rfl, rfl, by decide +kernel, rfl, by decide +kernel, by decide +kernel⟩ (bind1 fun _ _ _ _ _ _ _ => rfl) ?_ ?_
  · rintro args d ⟨_, _, rfl, _⟩; rfl
  rintro args d ⟨n, ts, rfl, rfl, hT, hn⟩ fa
  have hlen := hT.len
  have hpos := hT.pos
  refine js_asgE (i := 1) (je_len (je_var (n := 0) rfl) (.t _) (L.bl _ (by decide))) (d := .int (n : Nat)) (by rw [List.length_map, hlen]) ?_
  refine js_forM (P := fun _ ds' => ∃ a b c d e f g h i, ds' = [.val (tI ts), .val (.int (n : Nat)), a, b, c, d, e, f, g, h, i]) (jw_range1 (j := 2) (je_var (n := 1) rfl) (L.bl _ (by decide)) (by omega)) (pg_nameS (j := 2)) ⟨_, _, _, _, _, _, _, _, _, rfl⟩ (fun i a ds' hi hP => ?_) fun ds' hP => ?_
  · obtain ⟨a1, a2, a3, a4, a5, a6, a7, a8, a9, rfl⟩ := hP
    obtain ⟨rfl, hin⟩ := rangeI_at hi
    have tE : ∀ k < n, tAt ts k = gI ts k := fun k hk => by unfold tAt; rw [hlen, Nat.mod_eq_of_lt hk]
    obtain ⟨k, hk, hk1, hk2⟩ := hT.thrown hin (by omega)
    have gi := hT.rg i hin
    have gk := hT.rg k hk
    obtain ⟨m, m1, m2, m3, m4⟩ := hT.chain hin
    refine js_asgM (f := fun j : Int => .int (hopI ts j.toNat : Nat)) (i := 3) (own := [("_law_j", 10)]) rfl (jw_range1 (j := 10) (je_var (n := 1) rfl) (L.bl _ (by decide)) (by omega)) (pg_nameS (j := 10)) (fun v_j hm => ?_) (by rw [len_rangeI]; omega) (d := lN ((List.range n).map (hopI ts))) ?_ ?_
    · obtain ⟨j, rfl, hj⟩ := range_nat hm
      exact JE.is (je_mod (je_int1 (je_add (je_var (n := 10) rfl) (je_ixT (je_var (n := 0) rfl) (je_var (n := 10) rfl) (atI_int (by rw [hlen]; exact hj)))) (L.bl _ (by decide))) (je_var (n := 1) rfl) (by omega)) (by rw [Int.toNat_natCast, hT.hop j, tE j hj])
    · rw [map_range]
      unfold lN lstE
      rw [List.map_map]
      rfl
    have landAt : ∀ j < n, ((((List.range n).map (hopI ts)).map fun k : Nat => PyData.int (k : Nat)))[j]? = some (.int (hopI ts j : Nat)) := fun j hj => by rw [List.getElem?_map, List.getElem?_map, List.getElem?_range hj]; rfl
    refine js_asgE (i := 4) (je_ixT (je_var (n := 0) rfl) (je_index (jj := k) (je_var (n := 3) rfl) (je_var (n := 2) rfl) ?_ rfl (landAt k hk) ?_ ?_) (atI_int (by rw [hlen]; exact hk))) (d := .int (gI ts k)) rfl ?_
    · rw [List.all_map]
      exact List.all_eq_true.mpr
            fun _ _ => rfl
    · rw [eqv_int, hk2]; exact decide_eq_true rfl
    · intro q z hq hz
      rw [landAt q (by omega)] at hz
      cases hz
      rw [eqv_int]
      exact decide_eq_false fun e => by
        have := hT.inj q (by omega) k hk (by omega)
        omega
    have bn : ∀ t : Int, 0 ≤ t → t ≤ n → t ≤ 1000000 ∧ -1000000 ≤ t := fun t h0 h1 => by omega
    refine js_asgE (i := 5) (je_lst (ja_cons (JE.is (je_tupleL (je_lcm (f := fun j : Int => .int ((i + 1 + j.toNat) % n : Nat)) (own := [("_law_j", 10)]) rfl (jw_range1 (j := 10) (n := ((gI ts i).toNat : Nat)) (JE.is (je_ixT (je_var (n := 0) rfl) (je_var (n := 2) rfl) (atI_int (by rw [hlen]; exact hin))) (by congr 1; omega)) (L.bl _ (by decide)) (by omega)) (pg_nameS (j := 10)) (fun v_j hm => ?_) (by rw [len_rangeI]; omega)) (L.bl _ (by decide))) (y := tN (ringI n (i + 1) (gI ts i).toNat)) ?_)
      (ja_cons (JE.is (je_tupleL (je_lcm (f := fun j : Int => .int ((k + j.toNat) % n : Nat)) (own := [("_law_j", 10)]) rfl (jw_range1 (j := 10) (n := ((gI ts k).toNat : Nat)) (JE.is (je_var (n := 4) rfl) (by congr 1; omega)) (L.bl _ (by decide)) (by omega)) (pg_nameS (j := 10)) (fun v_j hm => ?_) (by rw [len_rangeI]; omega)) (L.bl _ (by decide))) (y := tN (ringI n k (gI ts k).toNat)) ?_) ja_nil)) (by show 2 ≤ 1000000; decide)) (d := .list [tN (ringI n (i + 1) (gI ts i).toNat), tN (ringI n k (gI ts k).toNat)]) rfl ?_
    · obtain ⟨j, rfl, hj⟩ := range_nat hm
      exact JE.is (je_mod (je_int1 (je_add (je_add (je_var (n := 2) rfl) je_int) (je_var (n := 10) rfl)) (L.bl _ (by decide))) (je_var (n := 1) rfl) (by omega)) (by rw [Int.toNat_natCast, nat_mod]; rfl)
    · rw [map_range]
      unfold tN tupE ringI
      rw [List.map_map]
      rfl
    · obtain ⟨j, rfl, hj⟩ := range_nat hm
      refine JE.is (je_mod (je_int1 (je_add (je_sub (je_var (n := 2) rfl) (je_var (n := 4) rfl)) (je_var (n := 10) rfl)) (L.bl _ (by decide))) (je_var (n := 1) rfl) (by omega)) ?_
      rw [Int.toNat_natCast, nat_mod]
      congr 1
      refine Cg.mod_iff.mp ?_
      have h1 := hT.hop k
      rw [hk2, tE k hk] at h1
      have c : Cg (n : Nat) (i : Int) ((k : Int) + gI ts k) := by rw [h1]; exact .mod _
      have c2 := (c.sub (.refl (gI ts k))).add (.refl (j : Int))
      refine c2.trans (.of ?_)
      rw [Int.natCast_add]
      omega
    · rw [map_range]
      unfold tN tupE ringI
      rw [List.map_map]
      rfl
    refine js_parNE (i := 8) (j := 9) (jn_lst (ja_cons (je_var (n := 2) rfl) ja_nil) (by show 1 ≤ 1000000; decide)) (je_ixL (je_var (n := 3) rfl) (je_var (n := 2) rfl) (atI_nat (landAt i hin))) ?_
    refine js_forM (P := fun q ds' => ∃ a b c, ds' = [.val (tI ts), .val (.int (n : Nat)), .val (.int (i : Nat)), .val (lN ((List.range n).map (hopI ts))), .val (.int (gI ts k)), .val (.list [tN (ringI n (i + 1) (gI ts i).toNat), tN (ringI n k (gI ts k).toNat)]), a, b, .own (((List.range (min (q + 1) m)).map fun j => itN (hopI ts) j i).map fun k : Nat => .int (k : Nat)), .val (.int (itN (hopI ts) (min (q + 1) m) i : Nat)), c]) (jw_range1 (j := 6) (je_var (n := 1) rfl) (L.bl _ (by decide)) (by omega)) (pg_nameS (j := 6)) ⟨a5, a6, a9, ?_⟩ (fun q a ds' hq hP => ?_) fun ds' hP => ?_
    · rw [show min (0 + 1) m = 1 by omega]
      rfl
    · obtain ⟨b1, b2, b3, rfl⟩ := hP
      obtain ⟨rfl, hqn⟩ := rangeI_at hq
      have hlt := hT.itLt hin (min (q + 1) m)
      by_cases hc : q + 1 < m
      · have e1 : min (q + 1) m = q + 1 := by omega
        have e2 : min (q + 1 + 1) m = q + 2 := by omega
        have ne := m4 (q + 1) (by omega) hc
        rw [e1] at hlt ⊢
        refine js_iff (k := true) (jt_is (jt_neI (je_var (n := 9) rfl) (je_var (n := 2) rfl)) (decide_eq_true (by omega))) (fun _ => ?_) fun h => by cases h
        refine js_append (i := 8) rfl (je_var (n := 9) rfl) (by rw [List.length_map, List.length_map, List.length_range]; omega) ?_
        refine js_asgE (i := 9) (je_ixL (je_var (n := 3) rfl) (je_var (n := 9) rfl) (atI_nat (landAt _ hlt))) rfl (js_nil (js_nil ⟨.val (.int (q : Nat)), b2, b3, ?_⟩))
        rw [e2, show q + 2 = (q + 1) + 1 by omega, List.range_succ (n := q + 1), List.map_append, List.map_append]
        rfl
      · have e1 : min (q + 1) m = m := by omega
        have e2 : min (q + 1 + 1) m = m := by omega
        rw [e1, m3]
        refine js_ifNo (jt_neI (je_var (n := 9) rfl) (je_var (n := 2) rfl)) (decide_eq_false (by omega)) (js_nil ⟨.val (.int (q : Nat)), b2, b3, ?_⟩)
        rw [e2, m3]
        rfl
    · obtain ⟨b1, b2, b3, rfl⟩ := hP
      have hl : (rangeI 0 ((n : Nat) : Int)).length = n := by rw [len_rangeI]; omega
      rw [hl, show min (n + 1) m = m by omega, m3]
      refine js_freeze (i := 8) rfl ?_
      have hs : ((List.range m).map fun j => tAt ts (itN (hopI ts) j i)).sum % (n : Nat) = 0 := by rw [sum_range]; exact hT.loop m3
      refine js_ifNo (jt_neI (je_mod (je_int1 (je_sumL (ns := (List.range m).map fun j => tAt ts (itN (hopI ts) j i)) (JE.is (je_lcm (f := fun k : Nat => .int (tAt ts k)) (own := [("_law_j", 10)]) rfl (jw_list (j := 10) (enc := fun k : Nat => .int (k : Nat)) (items := (List.range m).map fun j => itN (hopI ts) j i) (je_var (n := 8) rfl)) (pg_nameS (j := 10)) (fun v hv => ?_) (by rw [List.length_map, List.length_range]; omega)) ?_) (L.bl _ (by decide))) (L.bl _ (by decide))) (je_var (n := 1) rfl) (by omega)) je_int) (decide_eq_false (by rw [hs]; decide)) ?_
      · obtain ⟨j, _, rfl⟩ := List.mem_map.mp hv
        have hlt := hT.itLt hin j
        exact je_ixT (je_var (n := 0) rfl) (je_var (n := 10) rfl) (by rw [tE _ hlt]; exact atI_int (by rw [hlen]; exact hlt))
      · unfold lstE
        rw [List.map_map,
              List.map_map]
        rfl
      refine js_asgE (i := 7) (je_lst (ja_cons (je_call (ok_next_ones L) (by show 5 ≤ 5; decide) (ja_cons (je_var (n := 0) rfl) (ja_cons (je_var (n := 2) rfl) ja_nil)) ⟨ts, i, rfl, rfl, by omega, gi.1, by omega⟩) (ja_cons (je_call (ok_ones_before L) (by show 5 ≤ 5; decide) (ja_cons (je_var (n := 0) rfl) (ja_cons (je_var (n := 2) rfl) ja_nil)) ⟨ts, i, k, rfl, rfl, by omega, by omega, hk1, by omega, gk.1, by omega⟩) (ja_cons (je_call (ok_chain_of L) (by show 5 ≤ 5; decide) (ja_cons (je_var (n := 0) rfl) (ja_cons (je_var (n := 2) rfl) ja_nil)) ⟨ts, i, m, rfl, rfl, by omega, m1, by omega, m3, m4⟩) ja_nil))) (by show 3 ≤ 1000000; decide)) (d := .list [tN (ringI n (i + 1) (gI ts i).toNat), tN (ringI n k (gI ts k).toNat), tN ((List.range m).map fun j => itN (hopI ts) j i)]) (by rw [hlen]) ?_
      have sm : smD 4 (.list [tN (ringI n (i + 1) (gI ts i).toNat), tN (ringI n k (gI ts k).toNat), tN ((List.range m).map fun j => itN (hopI ts) j i)]) = true := by
        show (true && ([tN (ringI n (i + 1) (gI ts i).toNat), tN (ringI n k (gI ts k).toNat), tN ((List.range m).map fun j => itN (hopI ts) j i)]).all (smD 3)) = true
        rw [List.all_cons, List.all_cons, List.all_cons, sm_tN (by rw [ring_len]; omega) (fun x hx => by have := ring_lt hpos hx; omega), sm_tN (by rw [ring_len]; omega) (fun x hx => by have := ring_lt hpos hx; omega), sm_tN (by rw [List.length_map, List.length_range]; omega) (fun x hx => by
          obtain ⟨j, _, rfl⟩ := List.mem_map.mp hx
          have := hT.itLt hin j
          omega)]
        rfl
      refine js_ifNo (jt_not (jt_val (k := true) (je_callG (ok_L_same L) rfl (by show 1 ≤ 5; decide) (ja_cons (je_var (n := 7) rfl) (ja_cons (je_cat (je_var (n := 5) rfl) (je_lst (ja_cons (je_tupleL (je_var (n := 8) rfl) (L.bl _ (by decide))) ja_nil) (by show 1 ≤ 1000000; decide)) (by show 2 + 1 ≤ 1000000; decide)) ja_nil)) ⟨_, rfl, rfl, sm⟩))) rfl (js_nil ⟨_, _, _, _, _, _, _, _, _, rfl⟩)
  · obtain ⟨a1, a2, a3, a4, a5, a6, a7, a8, a9, rfl⟩ := hP
    exact js_retE je_bl rfl rfl
end
end Sh


set_option Elab.async false
set_option linter.all false
set_option maxRecDepth 100000
set_option maxHeartbeats 40000000
set_option autoImplicit false
/-! W22: _law_are_throws_right -/
namespace Sh
open PySem PySem.Spec
      PyProof.Rows L2
section
variable {S : SC} {ds : List Slot} {es : List Expr} {pos p p1 : Pos} {i : Nat} {t : Str} {P : PyData → Prop}
/-- f(feed, ..), the further arguments drawn -/
theorem jf_callA {x : Str} {n : Nat} {R : List PyData → (PyData → Prop) → Prop} (C : Cal S.prog S.w S.K S.mg S.base x n (spF R)) (hn : n ≤ S.k) (hi : ds[i]? = some .fd) (ha : JAF S ds es fun xs => R xs P)
    (hN : S.N[i]? = some t := by rfl) (hvv : Vis S.scope t := by first | exact Or.inl rfl | exact Or.inr (Or.inl rfl) | exact Or.inr (Or.inr rfl)) (h1 : (t == ("__debug__" : Str)) = false := by decide) (h2 : (t == ("__classdict__" : Str)) = false := by decide)
    (hg : S.scope.names.lookup x = some .globalImplicit := by rfl) (hdb : (x == ("__debug__" : Str)) = false := by decide)
    (hpl : ∀ env, (backTo pos (starEach es env)).any (·.1) = false := by intro _; rfl) : JF S ds (.Call (.Name x p) (.Name t p1 :: es) [] pos) P := by
  intro O σ H st hf f Q k
  have hv : σ[i]? = some (some (.ref S.fa.ad)) := by
    obtain ⟨y, q1, q2⟩ := st.sl i _ hi
    rw [q1, show y = some (.ref S.fa.ad) from q2]
  refine te_mk (fun X h => pe_cal h C hn hg (pa_cons (pe_var (i := i) (h.N ▸ hN) (h.scope ▸ hvv) h1 h2) (pa_taOf h) (by rfl)) hdb (by intro _; rfl) hpl) ⟨_, hv, ?_⟩
  refine ha O σ H st hf f _ fun vs xs H1 e1 f1 r1 hR => ?_
  exact ⟨S.fa, O, vs, xs, P, by rw [List.append_nil], hf, (st.monoF hf f e1 f1).dom, f1, r1, hR, fun v d H2 e2 f2 r2 hp => k v d H2 (e1.trans e2) f2 r2 hp⟩
end
section
variable {P : Program} {w : World} {K :
      PySem.W.Frag} {mg : Str → Option Value} {base : Heap}
theorem ok_most_burst (L : Lib K mg fns bls) : Cal P w K mg base "most_burst" 1 (spP R_most_burst) := (at_most_burst L).cal (bind1 fun _ _ _ _ _ _ _ => rfl)
theorem ok_most_window (L : Lib K mg fns bls) : Cal P w K mg base "most_window" 1 (spP R_most_window) := (at_most_window L).cal (bind1 fun _ _ _ _ _ _ _ => rfl)
theorem ck_most_burst (L : Lib K mg fns bls) : CalK P w K mg base "most_burst" 1 CX0 (spP R_most_burst) ["pattern"] rr1 := by
  obtain ⟨f, fd, F, hm, ok⟩ := at_most_burst (P := P) (w := w) (base := base) L
  exact calK1 F ok hm fun _ _ _ _ _ _ _ => rfl
theorem ck_most_window (L : Lib K mg fns bls) : CalK P w K mg base "most_window" 1 CX0 (spP R_most_window) ["pattern"] rr1 := by
  obtain ⟨f, fd, F, hm, ok⟩ := at_most_window (P := P) (w := w) (base := base) L
  exact calK1 F ok hm fun _ _ _ _ _ _ _ => rfl
theorem ck_mends_burst (L : Lib K mg fns bls) : CalK P w K mg base "mends_burst" 6 CX0 (spP R_mends_burst) ["stretch", "pattern"] rr2 := by
  obtain ⟨f, fd, F, hm, ok⟩ := at_mends_burst (P := P) (w := w) (base := base) L
  exact calK2 F ok hm fun _ _ _ _ _ _ _ _ => rfl
theorem ck_open_rank (L : Lib K mg fns bls) : CalK P w K mg base "open_rank" 6 CX0 (spP R_open_rank) ["stretch", "pattern"] rr2 := by
  obtain ⟨f, fd, F, hm, ok⟩ := at_open_rank (P := P) (w := w) (base := base) L
  exact calK2 F ok hm fun _ _ _ _ _ _ _ _ => rfl
theorem ck_next_ones (L : Lib K mg fns bls) : CalK P w K mg base "next_ones" 5 CX0 (spP R_next_ones) ["place", "pattern"] rr2 := by
  obtain ⟨f, fd, F, hm, ok⟩ := at_next_ones (P := P) (w := w) (base := base) L
  exact calK2 F ok hm fun _ _ _ _ _ _ _ _ => rfl
theorem ck_ones_before (L : Lib K mg fns bls) : CalK P w K mg base "ones_before" 5 CX0 (spP R_ones_before) ["place", "pattern"] rr2 := by
  obtain ⟨f, fd, F, hm, ok⟩ := at_ones_before (P := P) (w := w) (base := base) L
  exact calK2 F ok hm fun _ _ _ _ _ _ _ _ => rfl
theorem ck_chain_of (L : Lib K mg fns bls) : CalK P w K mg base "chain_of" 5 CX0 (spP R_chain_of) ["place", "pattern"] rr2 := by
  obtain ⟨f, fd, F, hm, ok⟩ := at_chain_of (P := P) (w := w) (base := base) L
  exact calK2 F ok hm fun _ _ _ _ _ _ _ _ => rfl
theorem rpRev {H : Hp} {zs : List V} {xs : List PyData} (r : RpAll H zs xs) : RpAll H (rr2 zs) (rr2 xs) := r.reverse
theorem sm_tI {ws : List Int} {k : Nat} (h : ws.length ≤ 12) (h2 : ∀ x ∈ ws, x.natAbs < 1000000) : smD (k + 1) (tI ws) = true := by
  show (decide ((ws.map PyData.int).length ≤ 12) && (ws.map PyData.int).all (smD k)) = true
  rw [List.length_map, decide_eq_true h, Bool.true_and, List.all_map]
  refine List.all_eq_true.mpr fun x hx => ?_
  have e : ∀ k, smD k (.int x) = true := fun k => by
    have : decide (x.natAbs < 1000000) = true := decide_eq_true (h2 x hx)
    cases k <;> exact this
  exact e k
def R_L_tt (args : List PyData) (Pd : PyData → Prop) : Prop := args = [] ∧ Pd (.bool true)
theorem ok_L_are_throws_right (L : Lib K mg fns bls) : CalG P w K mg base "_law_are_throws_right" 8 (spF R_L_tt) := by
  refine cal_feedG (N := ["_law_feed_here", "_law_lap", "_law_some", "_law_told", "_law_most_here", "_law_was", "_law_start", "_law_length"]) (ps := ["_law_feed_here"]) (k := 7) L 68 rfl ⟨rfl, rfl, rfl, by decide +kernel, rfl, by decide +kernel, by decide +kernel⟩ (bind1 fun _ _ _ _ _ _ _ => rfl) ?_ ?_
  · rintro args d ⟨rfl, _⟩; rfl
  rintro args Pd ⟨rfl, hP⟩ fa
  refine js_forM (P := fun _ ds' => ∃ a b c d e f g, ds' = [.fd, a, b, c, d, e, f, g]) (jw_range1 (j := 1) je_int (L.bl _ (by decide)) (by omega)) (pg_nameS (j := 1)) ⟨_, _, _, _, _, _, _, rfl⟩ (fun q a ds' hq hP' => ?_) fun ds' hP' => ?_
  · obtain ⟨a1, a2, a3, a4, a5, a6, a7, rfl⟩ := hP'
    obtain ⟨rfl, hq3⟩ := rangeI_at (n := 3) hq
    have ix : ∃ z : Int, atI ([4, 7, 10].map PyData.int) ((q : Nat) : Int) = some (.int z) ∧ 1 ≤ z ∧ z ≤ 10 := by
      have := atI_int (ws := [4, 7, 10]) (i := q) hq3
      refine ⟨_, this, ?_⟩
      match q, hq3 with
      | 0, _ => exact ⟨by decide, by decide⟩
      | 1, _ => exact ⟨by decide, by decide⟩
      | 2, _ => exact ⟨by decide, by decide⟩
    obtain ⟨z, hz, z1, z2⟩ := ix
    refine js_asgF (i := 2) (jf_callA (ok_L_throws L) (by show 2 ≤ 7; decide) (i := 0) rfl (jaf_cons (jf_op (fun X h => op_add) je_int (jf_call (ok_L_draw L) (by show 1 ≤ 7; decide) (i := 0) rfl (ja_cons (je_ixL (je_lst (ja_cons je_int (ja_cons je_int (ja_cons je_int ja_nil)))) (je_var (n := 1) rfl) hz) ja_nil) ⟨z, rfl, z1, by omega, fun v v0 v1 => ⟨_, rd_I0, jaf_nil ⟨(1 + v).toNat, by rw [show (((1 + v).toNat : Nat) : Int) = 1 + v by omega], by omega, by omega, fun ts hT => ?_⟩⟩⟩))))
    generalize hn : (1 + v).toNat = n at hT
    have hn10 : n ≤ 10 := by omega
    have hlen := hT.len
    have hpos := hT.pos
    obtain ⟨t, l, rfl⟩ : ∃ t l, ts = t :: l := by
      cases ts with
      | nil => simp at hlen; omega
      | cons t l => exact ⟨t, l, rfl⟩
    have hb : ∀ x ∈ t :: l, 0 ≤ x ∧ x ≤ n := fun x hx => by
      obtain ⟨k, hk, e, _⟩ := hT.all hx
      rw [← e]
      exact hT.rg k hk
    have smT : smD 3 (tI (t :: l)) = true := sm_tI (by omega) fun x hx => by have := hb x hx; omega
    obtain ⟨x1, x2⟩ := foldMax l t
    obtain ⟨y1, y2⟩ := foldMin l t
    have bx := hb _ x1
    have by_ := hb _ y1
    refine js_par2 (i := 4) (j := 5) (je_call (ok_L_most L) (by show 2 ≤ 7; decide) (ja_cons (je_var (n := 2) rfl) ja_nil) ⟨t, l, n, rfl, rfl, hT, by omega⟩) (je_repr 3 rfl (je_var (n := 2) rfl) smT (by decide) (L.bl _ (by decide))) ?_
    refine js_asgE (i := 3) (je_lst (ja_cons (je_call (ok_most_burst L) (by show 1 ≤ 7; decide) (ja_cons (je_var (n := 2) rfl) ja_nil) ⟨t, l, rfl, rfl⟩) (ja_cons (je_call (ok_most_window L) (by show 1 ≤ 7; decide) (ja_cons (je_var (n := 2) rfl) ja_nil) ⟨t, l, rfl, rfl⟩)
      (ja_cons (je_kw (ck_most_burst L) (fun r => r) (by show 1 ≤ 7; decide) (jk_cons (je_var (n := 2) rfl) jk_nil) rfl ⟨t, l, rfl, rfl⟩) (ja_cons (je_kw (ck_most_window L) (fun r => r) (by show 1 ≤ 7; decide) (jk_cons (je_var (n := 2) rfl) jk_nil) rfl ⟨t, l, rfl, rfl⟩) ja_nil)))) (by show 4 ≤ 1000000; decide)) (d := .list [.int ((n : Int) - l.foldl max t), .int (l.foldl min t), .int ((n : Int) - l.foldl max t), .int (l.foldl min t)]) (by rw [hlen]) ?_
    have sm4 : smD 4 (.list [.int ((n : Int) - l.foldl max t), .int (l.foldl min t), .int ((n : Int) - l.foldl max t), .int (l.foldl min t)]) = true := by
      have e1 : ((n : Int) - l.foldl max t).natAbs < 1000000 := by omega
      have e2 : (l.foldl min t).natAbs < 1000000 := by omega
      simp [smD, e1, e2]
    have tup : ∀ {S : SC} {ds : List Slot} {e1 e2 : Expr} {kk : Nat} {pos : Pos} {x y : Int}, JE S ds e1 (.int x) → JE S ds e2 (.int y) → (∀ env, starEach [e1, e2] env = (false, eval e1 env) :: starEach [e2] env) → (∀ env, starEach [e2] env = (false, eval e2 env) :: starEach [] env) → JE S ds (.Tuple [e1, e2] kk pos) (.tuple [.int x, .int y]) := fun h1 h2 h3 h4 => je_tup (ja_cons h1 (ja_cons h2 ja_nil h4) h3) (by show 2 ≤ 1000000; decide)
    refine js_ifNo (jt_not (jt_val (k := true) (je_callG (ok_L_same L) rfl (by show 1 ≤ 7; decide) (ja_cons (je_var (n := 3) rfl) (ja_cons (je_cat (ys := [.int ((n : Int) - l.foldl max t), .int (l.foldl min t)]) (je_var (n := 4) rfl) (je_lst (ja_cons (je_sub (JE.is (je_len (je_var (n := 2) rfl) (.t _) (L.bl _ (by decide))) (y := .int (n : Nat)) (by rw [List.length_map, hlen])) (je_maxT (je_var (n := 2) rfl) (L.bl _ (by decide)))) (ja_cons (je_minT (je_var (n := 2) rfl) (L.bl _ (by decide))) ja_nil)) (by show 2 ≤ 1000000; decide)) (by show 2 + 2 ≤ 1000000; decide)) ja_nil)) ⟨_, rfl, rfl, sm4⟩))) rfl ?_
    refine js_ifNo (jt_not (jt_val (k := true) (je_callG (ok_L_are_stretches_right L) rfl (by show 7 ≤ 7; decide) (ja_cons (je_var (n := 2) rfl) ja_nil) ⟨n, t :: l, rfl, rfl, hT, by omega⟩))) rfl ?_
    refine js_ifNo (jt_or2 (k := false) (l := false) (jt_not (jt_val (k := true) (je_callG (ok_L_are_menders_right L) rfl (by show 6 ≤ 7; decide) (ja_cons (je_var (n := 2) rfl) ja_nil) ⟨n, t :: l, rfl, rfl, hT, by omega⟩))) fun _ => jt_is (jt_neS (je_repr 3 rfl (je_var (n := 2) rfl) smT (by decide) (L.bl _ (by decide))) (je_var (n := 5) rfl)) (by simp)) rfl ?_
    have lenE : ∀ {S : SC} {ds : List Slot} {e : Expr} {p pos : Pos}, JE S ds e (tI (t :: l)) → S.mg ("len" : Str) = none → S.scope.names.lookup ("len" : Str) = some .globalImplicit → (∀ env, starEach [e] env = (false, eval e env) :: starEach [] env) → JE S ds (.Call (.Name "len" p) [e] [] pos) (.int (n : Nat)) := fun h hm hg hs => JE.is (je_len h (.t _) hm hg hs) (by rw [List.length_map, hlen])
    refine js_parF (i := 6) (j := 7) (jf_call (ok_L_draw L) (by show 1 ≤ 7; decide) (i := 0) rfl (ja_cons (lenE (je_var (n := 2) rfl) (L.bl _ (by decide)) rfl (by intro _; rfl)) ja_nil) ⟨_, rfl, by omega, by omega, fun s s0 s1 => ?_⟩)
    refine jf_call (ok_L_draw L) (by show 1 ≤ 7; decide) (i := 0) rfl (ja_cons (je_add (lenE (je_var (n := 2) rfl) (L.bl _ (by decide)) rfl (by intro _; rfl)) je_int) ja_nil) ⟨_, rfl, by omega, by omega, fun u u0 u1 => ?_⟩
    obtain ⟨s, rfl⟩ : ∃ s' : Nat, s = s' := ⟨s.toNat, by omega⟩
    obtain ⟨u, rfl⟩ : ∃ u' : Nat, u = u' := ⟨u.toNat, by omega⟩
    have mb : R_mends_burst [tI (t :: l), .tuple [.int (s : Nat), .int (u : Nat)]] (.bool (decide (openI (t :: l) s u = 0))) := ⟨t :: l, s, u, rfl, rfl, by omega, by omega, by omega⟩
    have ork : R_open_rank [tI (t :: l), .tuple [.int (s : Nat), .int (u : Nat)]] (.int (openI (t :: l) s u)) := ⟨t :: l, s, u, rfl, rfl, by omega, by omega, by omega⟩
    have small : (openI (t :: l) s u).natAbs < 1000000 := by
      rw [hT.open_ (by omega)]
      have : (farI (t :: l) s u).length ≤ u := by unfold farI; have := List.length_filter_le (fun k : Nat => decide (((t :: l).length : Int) - (k : Nat) ≤ tAt (t :: l) (s + k))) (List.range u); rw [List.length_range] at this; exact this
      omega
    refine js_asgE (i := 3) (je_lst (ja_cons (je_kw (ck_mends_burst L) rpRev (by show 6 ≤ 7; decide) (jk_cons (tup (je_var (n := 6) rfl) (je_var (n := 7) rfl) (by intro _; rfl) (by intro _; rfl)) (jk_cons (je_var (n := 2) rfl) jk_nil)) rfl mb) (ja_cons (je_kw (ck_open_rank L) rpRev (by show 6 ≤ 7; decide) (jk_cons (tup (je_var (n := 6) rfl) (je_var (n := 7) rfl) (by intro _; rfl) (by intro _; rfl)) (jk_cons (je_var (n := 2) rfl) jk_nil)) rfl ork) ja_nil)) (by show 2 ≤ 1000000; decide)) rfl ?_
    refine js_ifNo (jt_not (jt_val (k := true) (je_callG (ok_L_same L) rfl (by show 1 ≤ 7; decide) (ja_cons (je_var (n := 3) rfl) (ja_cons (je_lst (ja_cons (je_call (ok_mends_burst L) (by show 6 ≤ 7; decide) (ja_cons (je_var (n := 2) rfl) (ja_cons (tup (je_var (n := 6) rfl) (je_var (n := 7) rfl) (by intro _; rfl) (by intro _; rfl)) ja_nil)) mb) (ja_cons (je_call (ok_open_rank L) (by show 6 ≤ 7; decide) (ja_cons (je_var (n := 2) rfl) (ja_cons (tup (je_var (n := 6) rfl) (je_var (n := 7) rfl) (by intro _; rfl) (by intro _; rfl)) ja_nil)) ork) ja_nil)) (by show 2 ≤ 1000000; decide)) ja_nil)) ⟨_, rfl, rfl, by simp [smD, small]⟩))) rfl ?_
    have hs : s < n := by omega
    obtain ⟨k, hk, hk1, hk2⟩ := hT.thrown hs (by omega)
    obtain ⟨m, m1, m2, m3, m4⟩ := hT.chain hs
    have gs := hT.rg s hs
    have gk := hT.rg k hk
    have no : R_next_ones [tI (t :: l), .int (s : Nat)] (tN (ringI (t :: l).length (s + 1) (gI (t :: l) s).toNat)) := ⟨t :: l, s, rfl, rfl, by omega, gs.1, by omega⟩
    have ob : R_ones_before [tI (t :: l), .int (s : Nat)] (tN (ringI (t :: l).length k (gI (t :: l) k).toNat)) := ⟨t :: l, s, k, rfl, rfl, by omega, by omega, hk1, by omega, gk.1, by omega⟩
    have co : R_chain_of [tI (t :: l), .int (s : Nat)] (tN ((List.range m).map fun j => itN (hopI (t :: l)) j s)) := ⟨t :: l, s, m, rfl, rfl, by omega, m1, by omega, m3, m4⟩
    have sm5 : smD 4 (.list [tN (ringI (t :: l).length (s + 1) (gI (t :: l) s).toNat), tN (ringI (t :: l).length k (gI (t :: l) k).toNat), tN ((List.range m).map fun j => itN (hopI (t :: l)) j s)]) = true := by
      show (true && ([tN (ringI (t :: l).length (s + 1) (gI (t :: l) s).toNat), tN (ringI (t :: l).length k (gI (t :: l) k).toNat), tN ((List.range m).map fun j => itN (hopI (t :: l)) j s)]).all (smD 3)) = true
      rw [List.all_cons, List.all_cons, List.all_cons, sm_tN (by rw [ring_len]; omega) (fun x hx => by have := ring_lt (by omega) hx; omega), sm_tN (by rw [ring_len]; omega) (fun x hx => by have := ring_lt (by omega) hx; omega), sm_tN (by rw [List.length_map, List.length_range]; omega) (fun x hx => by
        obtain ⟨j, _, rfl⟩ := List.mem_map.mp hx
        have := hT.itLt hs j
        omega)]
      rfl
    refine js_asgE (i := 3) (je_lst (ja_cons (je_kw (ck_next_ones L) rpRev (by show 5 ≤ 7; decide) (jk_cons (je_var (n := 6) rfl) (jk_cons (je_var (n := 2) rfl) jk_nil)) rfl no) (ja_cons (je_kw (ck_ones_before L) rpRev (by show 5 ≤ 7; decide) (jk_cons (je_var (n := 6) rfl) (jk_cons (je_var (n := 2) rfl) jk_nil)) rfl ob) (ja_cons (je_kw (ck_chain_of L) rpRev (by show 5 ≤ 7; decide) (jk_cons (je_var (n := 6) rfl) (jk_cons (je_var (n := 2) rfl) jk_nil)) rfl co) ja_nil))) (by show 3 ≤ 1000000; decide)) rfl ?_
    exact js_ifNo (jt_not (jt_val (k := true) (je_callG (ok_L_same L) rfl (by show 1 ≤ 7; decide) (ja_cons (je_var (n := 3) rfl) (ja_cons (je_lst (ja_cons (je_call (ok_next_ones L) (by show 5 ≤ 7; decide) (ja_cons (je_var (n := 2) rfl) (ja_cons (je_var (n := 6) rfl) ja_nil)) no) (ja_cons (je_call (ok_ones_before L) (by show 5 ≤ 7; decide) (ja_cons (je_var (n := 2) rfl) (ja_cons (je_var (n := 6) rfl) ja_nil)) ob) (ja_cons (je_call (ok_chain_of L) (by show 5 ≤ 7; decide) (ja_cons (je_var (n := 2) rfl) (ja_cons (je_var (n := 6) rfl) ja_nil)) co) ja_nil))) (by show 3 ≤ 1000000; decide)) ja_nil)) ⟨_, rfl, rfl, sm5⟩))) rfl (js_nil ⟨_, _, _, _, _, _, _, rfl⟩)
  · obtain ⟨a1, a2, a3, a4, a5, a6, a7, rfl⟩ := hP'
    exact js_retF (jf_of je_bl hP)
end
end Sh


set_option Elab.async false
set_option linter.all false
set_option maxRecDepth 100000
set_option maxHeartbeats 40000000
set_option autoImplicit false
/-! M9: what is orthogonal -/
namespace Sh
open PySem L2
def dot (n : Nat) (u v : Vec) : Int := Su n fun i => u i * v i
section
variable {p : Int} {n m : Nat} {rows A B : List (List Int)} {r : List Int} {u v w u' v' : Vec} {f i : Nat}
theorem dot_cg (hu : ∀ i < n, Cg p (u i) (u' i)) (hv : ∀ i < n, Cg p (v i) (v' i)) : Cg p (dot n u v) (dot n u' v') := Su.cg fun i hi => (hu i hi).mul (hv i hi)
theorem dot_comm : dot n u v = dot n v u := Su.congr fun i _ => Int.mul_comm _ _
theorem dot_lin (c : Int) : dot n (fun i => u i + c * v i) w = dot n u w + c * dot n v w := by
  unfold dot
  rw [Su.congr (g := fun i => u i * w i + c * (v i * w i)) fun i _ => by grind, Su.add, Su.mulc]
theorem span_dot (h : ∀ r ∈ rows, Cg p (dot n (gI r) v) 0) (hu : Span p rows u) : Cg p (dot n u v) 0 :=
  hu.ind (Q := fun u => Cg p (dot n u v) 0) (fun u hu => (dot_cg (u' := fun _ => 0) (v' := v) (fun i _ => hu i) fun i _ => .refl _).trans (.of (Su.zero fun i _ => Int.zero_mul _)))
    (fun a b u c ha hb q => (dot_cg (v' := v) (fun i _ => q i) fun i _ => .refl _).trans ((Cg.of (dot_lin c)).trans ((ha.add ((Cg.refl c).mul hb)).trans (.of (by omega))))) h
theorem span_out (hw : ∀ r ∈ rows, Wd p n r) (hu : Span p rows u) : ∀ i, n ≤ i → Cg p (u i) 0 :=
  hu.ind (Q := fun u => ∀ i, n ≤ i → Cg p (u i) 0) (fun u hu i _ => hu i) (fun a b u c ha hb q i hi => (q i).trans (((ha i hi).add ((Cg.refl c).mul (hb i hi))).trans (.of (by omega)))) fun r hr i hi => .of (gI_out (by rw [(hw r hr).1]; exact hi))
/-- zero elsewhere, and orthogonal to all rows -/
def Orth (p : Int) (n : Nat) (rows : List (List Int)) (v : Vec) : Prop := (∀ i, n ≤ i → Cg p (v i) 0) ∧ ∀ r ∈ rows, Cg p (dot n (gI r) v) 0
theorem Orth.sp (h : SpEq p A B) (q : Orth p n A v) : Orth p n B v := ⟨q.1, fun r hr => span_dot q.2 ((h _).mpr (.mem hr))⟩
theorem su_lsum (F : Nat → List Int → Int) (n : Nat) : ∀ rows : List (List Int), Su n (fun i => (rows.map fun r => F i r).sum) = (rows.map fun r => Su n fun i => F i r).sum
  | [] => Su.zero fun _ _ => rfl
  | r :: rows => by
    rw [List.map_cons, List.sum_cons, ← su_lsum F n rows, ← Su.add]
    rfl
theorem lsum_mul (g : List Int → Int) (c : Int) : ∀ rows : List (List Int), (rows.map g).sum * c = (rows.map fun r => g r * c).sum
  | [] => Int.zero_mul c
  | r :: rows => by rw [List.map_cons, List.sum_cons, List.map_cons, List.sum_cons, Int.add_mul, lsum_mul g c rows]
theorem sum_none {g : List Int → Int} (h : ∀ s ∈ rows, i ≠ ldg s) : (rows.map fun s => if i = ldg s then g s else 0).sum = 0 := by
  induction rows with
  | nil => rfl
  | cons s rows ih =>
    rw [List.map_cons, List.sum_cons, if_neg (h s List.mem_cons_self), ih fun s hs => h s (List.mem_cons_of_mem _ hs)]
    rfl
theorem sum_at {g : List Int → Int} (nd : (rows.map ldg).Nodup) (hr : r ∈ rows) : (rows.map fun s => if ldg r = ldg s then g s else 0).sum = g r := by
  induction rows with
  | nil => exact absurd hr List.not_mem_nil
  | cons s rows ih =>
    rw [List.map_cons] at nd
    obtain ⟨n1, n2⟩ := List.pairwise_cons.mp nd
    rw [List.map_cons,
          List.sum_cons]
    rcases List.mem_cons.mp
          hr with rfl | hr
    · rw [if_pos rfl, sum_none fun s hs e => n1 _ (List.mem_map.mpr ⟨s, hs, rfl⟩) e, Int.add_zero]
    · rw [if_neg (fun e => n1 _ (List.mem_map.mpr ⟨r, hr, rfl⟩) e.symm), ih n2 hr, Int.zero_add]
theorem proj_sum (f : Nat) : ∀ {rows : List (List Int)} {v : Vec}, (rows.Pairwise fun a b => gI b (ldg a) = 0 ∧ gI a (ldg b) = 0) → projR rows v f = v f - (rows.map fun r => v (ldg r) * gI r f).sum
  | [], v, _ => by show v f = v f - 0; omega
  | r :: rows, v, h => by
    obtain ⟨h1, h2⟩ :=
          List.pairwise_cons.mp h
    rw [projR_cons, proj_sum f h2, List.map_cons, List.sum_cons]
    have e : (rows.map fun s => (v (ldg s) - v (ldg r) * gI r (ldg s)) * gI s f) = rows.map fun s => v (ldg s) * gI s f := List.map_congr_left fun s hs => by rw [(h1 s hs).2]; congr 1; omega
    rw [e]
    omega
theorem unit_at {k : Nat} (hi : i < n) : gI (unitI n (k : Int)) i = if i = k then 1 else 0 := by
  unfold gI unitI
  rw [List.getD_eq_getElem?_getD, List.getElem?_map, List.getElem?_range hi]
  show (if (i : Int) = (k : Int) then (1 : Int) else 0) = _
  by_cases h : i = k
  · rw [if_pos h,
          if_pos (by omega)]
  · rw [if_neg h,
          if_neg (by omega)]
theorem mem_free : f ∈ freeI n rows ↔ f < n ∧ ∀ r ∈ rows, ldg r ≠ f := by
  unfold freeI
  rw [List.mem_filter, List.mem_range]
  refine and_congr_right fun _ => ?_
  simp
theorem check_at (hp : isP p) (h : Red p n rows) (hf : f ∈ freeI n rows) (hi : i < n) : Cg p (gI (checkI p n rows f) i) ((if i = f then 1 else 0) - (rows.map fun r => if i = ldg r then gI r f else 0).sum) := by
  obtain ⟨f1, f2⟩ := mem_free.mp hf
  have e : gI (checkI p n rows f) i = dgetD (rows.map fun r => ((ldg r : Nat), (-gI r f) % p)) (i : Nat) (gI (unitI n (f : Int)) i) := by
    unfold checkI
    conv => lhs; unfold gI
    rw [List.getD_eq_getElem?_getD, List.getElem?_mapIdx, gI_get (by rw [unit_len]; exact hi)]
    rfl
  rw [e, unit_at hi]
  unfold dgetD
  cases q : List.find? (fun kv : Int × Int => decide (kv.1 = (i : Nat))) (rows.map fun r => (((ldg r : Nat) : Int), (-gI r f) % p)) with
  | none =>
    have no := List.find?_eq_none.mp q
    rw [sum_none fun s hs e => no _ (List.mem_map.mpr ⟨s, hs, rfl⟩) (decide_eq_true (by show ((ldg s : Nat) : Int) = (i : Nat); omega))]
    exact .of (by show (if i = f then (1 : Int) else 0) = _; omega)
  | some kv =>
    have hm := List.mem_of_find?_eq_some q
    have hk := List.find?_some q
    obtain ⟨s, hs, rfl⟩ := List.mem_map.mp hm
    have hk : ((ldg s : Nat) : Int) = (i : Nat) := of_decide_eq_true hk
    have hk : ldg s = i := by omega
    subst hk
    rw [sum_at (leads_nd h) hs, if_neg (f2 s hs)]
    show Cg p ((-gI s f) % p) (0 - gI s f)
    exact (Cg.mod _).trans (.of (by omega))
theorem check_dot (hp : isP p) (h : Red p n rows) (hf : f ∈ freeI n rows) : Cg p (dot n (gI (checkI p n rows f)) v) (projR rows v f) := by
  obtain ⟨f1, f2⟩ := mem_free.mp hf
  refine (dot_cg (v' := v) (fun i hi => check_at hp h hf hi) fun i _ => .refl _).trans (.of ?_)
  rw [proj_sum f h.off]
  unfold dot
  have e : Su n (fun i => ((if i = f then 1 else 0) - (rows.map fun r => if i = ldg r then gI r f else 0).sum) * v i) = Su n (fun i => (if i = f then v f else 0) - (rows.map fun r => if i = ldg r then v (ldg r) * gI r f else 0).sum) := Su.congr fun i _ => by
    rw [Int.sub_mul, lsum_mul]
    congr 1
    · by_cases q : i = f
      · rw [if_pos q, if_pos q, q, Int.one_mul]
      · rw [if_neg q, if_neg q, Int.zero_mul]
    · congr 1
      refine List.map_congr_left fun r _ => ?_
      by_cases q : i = ldg r
      · rw [if_pos q, if_pos q, q, Int.mul_comm]
      · rw [if_neg q, if_neg q, Int.zero_mul]
  rw [e, Su.sub, Su.one f1, su_lsum (fun i r => if i = ldg r then v (ldg r) * gI r f else 0) n rows]
  congr 2
  exact List.map_congr_left fun r hr => Su.one (h.lead hr).2.2.1
theorem dual_B (hp : isP p) (h : Red p n rows) (h0 : ∀ i, n ≤ i → Cg p (v i) 0) : (∀ f ∈ freeI n rows, Cg p (dot n (gI (checkI p n rows f)) v) 0) ↔ Span p rows v := by
  constructor
  · intro q
    refine (span_iff h.ech).mpr fun i => ?_
    by_cases hi : i < n
    · by_cases hl : ∃ r ∈ rows, ldg r = i
      · obtain ⟨r, hr, rfl⟩ := hl
        exact projR_at h.ech r hr
      · have hf : i ∈ freeI n rows := mem_free.mpr ⟨hi, fun r hr e => hl ⟨r, hr, e⟩⟩
        exact (check_dot hp h hf).symm.trans (q i hf)
    · have a := span_out h.wd (projR_span (p := p) (rows := rows) (v := v)) i (by omega)
      have b := (h0 i (by omega)).sub a
      exact Cg.trans (.of (by omega)) (b.trans (.of (by omega)))
  · intro q f hf
    exact (check_dot hp h hf).trans ((span_iff h.ech).mp q f)
theorem span_su {c : Nat → Int} {g : Nat → List Int} : ∀ m, (∀ f < m, Cg p (c f) 0 ∨ g f ∈ rows) → Span p rows fun i => Su m fun f => c f * gI (g f) i
  | 0, _ => .zero fun i => .refl 0
  | m + 1, h => by
    have ih := span_su m fun f hf => h f (by omega)
    rcases h m (by omega) with q | q
    · exact ih.cg fun i => ((Cg.refl _).add (q.mul (.refl _))).trans (.of (by omega))
    · exact ih.add ((Span.mem q).smul (c m))
theorem dual_A (hp : isP p) (h : Red p n rows) : Orth p n rows v ↔ Span p ((freeI n rows).map (checkI p n rows)) v := by
  have cw : ∀ c ∈ (freeI n rows).map (checkI p n rows), Wd p n c := fun c hc => by
    obtain ⟨f, _, rfl⟩ := List.mem_map.mp hc
    exact check_wd hp f
  have back : ∀ {u : Vec}, Span p ((freeI n rows).map (checkI p n rows)) u → Orth p n rows u := fun {u} hu => by
    refine ⟨span_out cw hu, fun r hr => ?_⟩
    rw [dot_comm]
    refine span_dot (fun c hc => ?_) hu
    obtain ⟨f, hf, rfl⟩ := List.mem_map.mp hc
    exact (check_dot hp h hf).trans (projR_row h.ech r hr f)
  refine ⟨fun q => ?_, back⟩
  have isf : ∀ f, Decidable (f ∈ freeI n rows) := fun f => inferInstance
  have hs : Span p ((freeI n rows).map (checkI p n rows)) fun i => Su n fun f => (if f ∈ freeI n rows then v f else 0) * gI (checkI p n rows f) i := span_su n fun f _ => by
    by_cases z : f ∈ freeI n rows
    · exact .inr (List.mem_map.mpr ⟨f, z, rfl⟩)
    · exact .inl (.of (if_neg z))
  have ho := back hs
  refine hs.cg fun i => ?_
  have free : ∀ i ∈ freeI n rows, Cg p (v i) (Su n fun f => (if f ∈ freeI n rows then v f else 0) * gI (checkI p n rows f) i) := fun i hi => by
    obtain ⟨i1, i2⟩ := mem_free.mp hi
    refine Cg.trans (.of (Su.one (c := v i) i1).symm) (Su.cg fun f hf => ?_)
    by_cases z : f ∈ freeI n rows
    · rw [if_pos z]
      refine Cg.trans ?_ ((Cg.refl (v f)).mul (check_at hp h z i1)).symm
      rw [sum_none fun s hs e => i2 s hs e.symm]
      by_cases e : i = f
      · rw [if_pos e.symm, if_pos e, e]; exact .of (by omega)
      · rw [if_neg (fun w => e w.symm), if_neg e]; exact .of (by omega)
    · rw [if_neg z, if_neg (fun e : f = i => z (by rw [e]; exact hi))]
      exact .of (by omega)
  generalize hc : (fun i => Su n fun f => (if f ∈ freeI n rows then v f else 0) * gI (checkI p n rows f) i) = c at hs ho
  have free : ∀ i ∈ freeI n rows, Cg p (v i) (c i) := fun i hi => by rw [← hc]; exact free i hi
  show Cg p (v i) ((fun i => Su n fun f => (if f ∈ freeI n rows then v f else 0) * gI (checkI p n rows f) i) i)
  rw [hc]
  by_cases hi : i < n
  · by_cases hl : ∃ r ∈ rows, ldg r = i
    · obtain ⟨r, hr, rfl⟩ := hl
      have d : Cg p (dot n (gI r) (fun i => v i - c i)) (v (ldg r) - c (ldg r)) := by
        refine Cg.trans ?_ (.of (Su.one (n := n) (c := v (ldg r) - c (ldg r)) hi))
        refine Su.cg fun j hj => ?_
        by_cases e : j = ldg r
        · rw [if_pos e, e, (h.lead hr).2.1]; exact .of (Int.one_mul _)
        · rw [if_neg e]
          by_cases hl : ∃ s ∈ rows, ldg s = j
          · obtain ⟨s, hs, rfl⟩ := hl
            have : gI r (ldg s) = 0 := h.at_ hr hs fun z => e (by rw [z])
            rw [this]; exact .of (by omega)
          · have := free j (mem_free.mpr ⟨hj, fun s hs e => hl ⟨s, hs, e⟩⟩)
            exact ((Cg.refl (gI r j)).mul (this.sub (.refl (c j)))).trans (.of (by rw [Int.sub_self, Int.mul_zero]))
      have d2 : Cg p (dot n (gI r) (fun i => v i - c i)) 0 := by
        have e : dot n (gI r) (fun i => v i - c i) = dot n (gI r) v - dot n (gI r) c := by
          unfold dot
          rw [← Su.sub]
          exact Su.congr fun i _ => Int.mul_sub _ _ _
        rw [e]
        exact ((q.2 r hr).sub (ho.2 r hr)).trans (.of (by omega))
      have d3 := (d.symm.trans d2).add (.refl (c (ldg r)))
      exact Cg.trans (.of (by omega)) (d3.trans (.of (by omega)))
    · exact free i (mem_free.mpr ⟨hi, fun r hr e => hl ⟨r, hr, e⟩⟩)
  · exact (q.1 i (by omega)).trans (ho.1 i (by omega)).symm
theorem checks_span (hp : isP p) (h : Red p n rows) : Span p (checksI p n rows) v ↔ Orth p n rows v := ((checks_red hp).2.2 v).trans (dual_A hp h).symm
theorem checks_orth (hp : isP p) (h : Red p n rows) (h0 : ∀ i, n ≤ i → Cg p (v i) 0) : (∀ c ∈ checksI p n rows, Cg p (dot n (gI c) v) 0) ↔ Span p rows v := by
  rw [← dual_B hp h h0]
  constructor
  · intro q f hf
    exact (Orth.sp (checks_red hp).2.2 ⟨h0, q⟩).2 _ (List.mem_map.mpr ⟨f, hf, rfl⟩)
  · intro q
    refine (Orth.sp (checks_red hp).2.2.symm ⟨h0, fun c hc => ?_⟩).2
    obtain ⟨f, hf, rfl⟩ := List.mem_map.mp hc
    exact q f hf
theorem unit_dot {k : Nat} (hk : k < n) : dot n (gI (unitI n (k : Int))) v = v k := by
  rw [← Su.one (n := n) (c := v k) hk]
  refine Su.congr fun i hi => ?_
  rw [unit_at hi]
  by_cases e : i = k
  · rw [if_pos e, if_pos e, e, Int.one_mul]
  · rw [if_neg e, if_neg e, Int.zero_mul]
/-- the words that are 0 elsewhere than at some places -/
theorem words_span (hp : isP p) (h : Red p n rows) {places : List Nat} : Span p (wordsI p n rows places) v ↔ Span p rows v ∧ ∀ k < n, k ∉ places → Cg p (v k) 0 := by
  obtain ⟨r1, _, r3, _⟩ := reduced_red hp (words_wd (p := p) (n := n) (rows := rows) (places := places) hp)
  unfold wordsI
  rw [checks_span hp r1]
  have kept : ∀ k, k ∈ keptI n places ↔ k < n ∧ k ∉ places := fun k => by
    unfold keptI
    rw [List.mem_filter, List.mem_range]
    refine and_congr_right fun _ => ?_
    simp
  constructor
  · intro q
    have q := Orth.sp r3 q
    refine ⟨(checks_orth hp h q.1).mp fun c hc => q.2 c (List.mem_append_left _ hc), fun k hk hn => ?_⟩
    have := q.2 _ (List.mem_append_right _ (List.mem_map.mpr ⟨k, (kept k).mpr ⟨hk, hn⟩, rfl⟩))
    rwa [unit_dot hk] at this
  · rintro ⟨q1, q2⟩
    have h0 := span_out h.wd q1
    refine Orth.sp r3.symm ⟨h0, fun c hc => ?_⟩
    rcases List.mem_append.mp hc with z | z
    · exact (checks_orth hp h h0).mpr q1 c z
    · obtain ⟨k, hk, rfl⟩ := List.mem_map.mp z
      obtain ⟨k1, k2⟩ := (kept k).mp hk
      rw [unit_dot k1]
      exact q2 k k1 k2
theorem words_red (hp : isP p) (h : Red p n rows) (places : List Nat) : Red p n (wordsI p n rows places) ∧ Asc (wordsI p n rows places) := ⟨(checks_red hp).1, (checks_red hp).2.1⟩
end
end Sh


set_option Elab.async false
set_option linter.all false
set_option maxRecDepth 100000
set_option maxHeartbeats 40000000
set_option autoImplicit false
/-! M10: places picked; the open words; the pattern -/
namespace Sh
open PySem L2
def pick (m : Nat) (σ : Nat → Nat) (v : Vec) : Vec := fun j => if j < m then v (σ j) else 0
section
variable {p : Int} {n m : Nat} {rows A B : List (List Int)} {r : List Int} {u v w : Vec} {i k : Nat} {σ : Nat → Nat} {φ : List Int → List Int} {ks : List Nat}
theorem pick_in (h : i < m) : pick m σ v i = v (σ i) := if_pos h
theorem pick_out (h : m ≤ i) : pick m σ v i = 0 := if_neg (by omega)
theorem pick_cg (h : ∀ i, Cg p (u i) (v i)) (j : Nat) : Cg p (pick m σ u j) (pick m σ v j) := by
  by_cases q : j < m
  · rw [pick_in q, pick_in q]; exact h _
  · rw [pick_out (by omega), pick_out (by omega)]; exact .refl 0
theorem pick_zero (h : ∀ i, Cg p (v i) 0) (j : Nat) : Cg p (pick m σ v j) 0 := by
  by_cases q : j < m
  · rw [pick_in q]; exact h _
  · rw [pick_out (by omega)]; exact .refl 0
theorem pick_lin (c : Int) (j : Nat) : pick m σ (fun i => u i + c * v i) j = pick m σ u j + c * pick m σ v j := by
  by_cases q : j < m
  · rw [pick_in q, pick_in q, pick_in q]
  · rw [pick_out (by omega), pick_out (by omega), pick_out (by omega)]; omega
theorem Span.pick (hφ : ∀ r ∈ rows, ∀ j, gI (φ r) j = Sh.pick m σ (gI r) j) (h : Span p rows v) : Span p (rows.map φ) (Sh.pick m σ v) :=
  h.ind (Q := fun v => Span p (rows.map φ) (Sh.pick m σ v)) (fun v hv => .zero fun i => pick_zero hv i) (fun a b v c ha hb q => (ha.add (hb.smul c)).cg fun j => (pick_cg q j).trans (.of (pick_lin c j)))
    fun r hr => (Span.mem (List.mem_map.mpr ⟨r, hr, rfl⟩)).cg fun j => .of (hφ r hr j).symm
theorem Span.lift (hφ : ∀ r ∈ rows, ∀ j, gI (φ r) j = Sh.pick m σ (gI r) j) (h : Span p (rows.map φ) u) : ∃ v, Span p rows v ∧ ∀ j, Cg p (u j) (Sh.pick m σ v j) := by
  refine h.ind (Q := fun u => ∃ v, Span p rows v ∧ ∀ j, Cg p (u j) (Sh.pick m σ v j)) (fun u hu => ⟨fun _ => 0, .zero fun i => .refl 0, fun j => (hu j).trans (pick_zero (p := p) (v := fun _ => 0) (fun i => .refl 0) j).symm⟩) (fun a b u c ha hb q => ?_) fun x hx => ?_
  · obtain ⟨va, a1, a2⟩ := ha
    obtain ⟨vb, b1, b2⟩ := hb
    exact ⟨_, a1.add (b1.smul c), fun j => (q j).trans (((a2 j).add ((Cg.refl c).mul (b2 j))).trans (.of (pick_lin c j).symm))⟩
  · obtain ⟨r, hr, rfl⟩ := List.mem_map.mp hx
    exact ⟨gI r, .mem hr, fun j => .of (hφ r hr j)⟩
theorem at_pick (r : List Int) (j : Nat) : gI (atP ks r) j = pick ks.length (fun j => ks.getD j 0) (gI r) j := by
  by_cases q : j < ks.length
  · rw [pick_in q]
    unfold atP
    conv => lhs; unfold gI
    rw [List.getD_eq_getElem?_getD, List.getElem?_map, List.getElem?_eq_getElem q, List.getD_eq_getElem?_getD, List.getElem?_eq_getElem q]
    rfl
  · rw [pick_out (by omega), gI_out (by unfold atP; rw [List.length_map]; omega)]
theorem back_pick {order : List Nat} (r : List Int) (j : Nat) : gI (backI order r) j = pick order.length (fun k => order.idxOf k) (gI r) j := by
  by_cases q : j < order.length
  · rw [pick_in q]
    unfold backI
    conv => lhs; unfold gI
    rw [List.getD_eq_getElem?_getD, List.getElem?_map, List.getElem?_range q]
    rfl
  · rw [pick_out (by omega), gI_out (by unfold backI; rw [List.length_map, List.length_range]; omega)]
theorem take_pick (r : List Int) (j : Nat) : gI (r.take m) j = pick m (fun j => j) (gI r) j := by
  by_cases q : j < m
  · rw [pick_in q, gI_take q]
  · rw [pick_out (by omega), gI_out (by rw [List.length_take]; omega)]
theorem span_lsum {c : List Int → Int} {l : List (List Int)} (h : ∀ r ∈ l, Cg p (c r) 0 ∨ r ∈ rows) : Span p rows fun i => (l.map fun r => c r * gI r i).sum := by
  induction l with
  | nil => exact .zero fun i => .refl 0
  | cons r l ih =>
    have ih := ih fun s hs => h s (List.mem_cons_of_mem _ hs)
    rcases h r List.mem_cons_self with q | q
    · exact ih.cg fun i => by
        rw [List.map_cons,
              List.sum_cons]
        exact ((q.mul (.refl _)).add (.refl _)).trans (.of (by omega))
    · exact (ih.add ((Span.mem q).smul (c r))).cg fun i => by
        rw [List.map_cons,
              List.sum_cons]
        exact .of (by omega)
/-- by its leads -/
theorem red_sum (h : Red p n rows) (hu : Span p rows u) (i : Nat) : Cg p (u i) (rows.map fun r => u (ldg r) * gI r i).sum := by
  have a := (span_iff h.ech).mp hu i
  rw [proj_sum i h.off] at a
  have b := a.add (.refl (rows.map fun r => u (ldg r) * gI r i).sum)
  exact Cg.trans (.of (by omega)) (b.trans (.of (by omega)))
theorem red_part (h : Red p n rows) (hu : Span p rows u) {q : List Int → Bool} (h0 : ∀ j < m, Cg p (u j) 0) (hq : ∀ r ∈ rows, q r = true ∨ ldg r < m) : Span p (rows.filter q) u := by
  refine (span_lsum (c := fun r => u (ldg r)) (l := rows) fun r hr => ?_).cg fun i => red_sum h hu i
  rcases hq r hr with z | z
  · exact .inr (List.mem_filter.mpr ⟨hr, z⟩)
  · exact .inl (h0 _ z)
theorem zeroTo_iff : zeroTo m r = true ↔ ∀ j < m, gI r j = 0 := by
  unfold zeroTo
  rw [List.isEmpty_iff, List.filter_eq_nil_iff]
  constructor
  · intro h j hj
    by_cases q : j < r.length
    · have := h (gI r j) (List.mem_of_getElem? (i := j) (by rw [List.getElem?_take_of_lt hj, gI_get q]))
      simpa using this
    · exact gI_out (by omega)
  · intro h x hx
    obtain ⟨j, hj⟩ :=
          List.getElem?_of_mem hx
    have hl := (List.getElem?_eq_some_iff.mp hj).1
    rw [List.length_take] at hl
    rw [List.getElem?_take_of_lt (by omega), gI_get (by omega)] at hj
    have := h j (by omega)
    rw [← Option.some.inj hj, this]
    decide
theorem kept_mem {lost : List Nat} : k ∈ keptI n lost ↔ k < n ∧ k ∉ lost := by
  unfold keptI
  rw [List.mem_filter, List.mem_range]
  refine and_congr_right fun _ => ?_
  simp
/-- there and back -/
theorem round (o1 : ks.length = n) (o2 : ∀ k < n, k ∈ ks) {j : Nat} (hj : j < n) : pick ks.length (fun k => ks.idxOf k) (pick ks.length (fun j => ks.getD j 0) v) j = v j := by
  have hi : ks.idxOf j < ks.length := List.idxOf_lt_length_iff.mpr (o2 j hj)
  rw [pick_in (by omega), pick_in hi, List.getD_eq_getElem?_getD, List.getElem?_eq_getElem hi, List.getElem_idxOf hi]
  rfl
theorem open_wd (hp : isP p) (hw : ∀ r ∈ rows, Wd p n r) (lost : List Nat) : ∀ x ∈ ((reducedI p (rows.map (atP (firstO n (keptI n lost))))).filter (zeroTo (keptI n lost).length)).map (backI (firstO n (keptI n lost))), Wd p n x := fun x hx => by
  have lt : ∀ k ∈ keptI n lost, k < n := fun k hk => (kept_mem.mp hk).1
  obtain ⟨r, hr, rfl⟩ := List.mem_map.mp hx
  have hp2 := hp.two
  obtain ⟨fl, fa, fm, fnd⟩ := first_len (kept_nd n lost) lt
  exact back_wd (by omega) fl fa ((reduced_red hp (perm_wd (by omega) hw (kept_nd n lost) lt)).1.wd r (List.mem_filter.mp hr).1)
theorem open_span (hp : isP p) (hw : ∀ r ∈ rows, Wd p n r) {lost : List Nat} : Span p (openW p n rows lost) v ↔ Span p rows v ∧ ∀ k < n, k ∉ lost → Cg p (v k) 0 := by
  have hp2 := hp.two
  have lt : ∀ k ∈ keptI n lost, k < n := fun k hk => (kept_mem.mp hk).1
  obtain ⟨fl, fa, fm, fnd⟩ := first_len (kept_nd n lost) lt
  obtain ⟨rR, _, rS, _⟩ := reduced_red hp (perm_wd (p := p) (by omega) hw (kept_nd n lost) lt)
  obtain ⟨_, _, oS, _⟩ := reduced_red hp (open_wd hp hw lost)
  unfold openW
  rw [oS v]
  generalize hR : reducedI p (rows.map (atP (firstO n (keptI n lost)))) = R at *
  have pre : ∀ j < (keptI n lost).length, (firstO n (keptI n lost)).getD j 0 ∈ keptI n lost := fun j hj => by
    unfold firstO
    rw [List.getD_eq_getElem?_getD, List.getElem?_append_left hj, List.getElem?_eq_getElem hj]
    exact List.getElem_mem hj
  have idx : ∀ k ∈ keptI n lost, (firstO n (keptI n lost)).idxOf k < (keptI n lost).length := fun k hk => by
    unfold firstO
    rw [List.idxOf_append, if_pos hk]
    exact List.idxOf_lt_length_of_mem hk
  generalize hO : firstO n (keptI n lost) = order at *
  constructor
  · intro h
    obtain ⟨u, u1, u2⟩ := h.lift (fun r _ j => back_pick r j)
    have u3 : Span p (rows.map (atP order)) u := (rS u).mp (u1.mono fun r hr => (List.mem_filter.mp hr).1)
    obtain ⟨w, w1, w2⟩ := u3.lift (fun r _ j => at_pick r j)
    have vw : ∀ i < n, Cg p (v i) (w i) := fun i hi => (u2 i).trans ((pick_cg w2 i).trans (.of (round fl fa hi)))
    have v0 : ∀ i, n ≤ i → Cg p (v i) 0 := fun i hi => (u2 i).trans (.of (pick_out (by omega)))
    refine ⟨w1.cg fun i => ?_, fun k hk hn => ?_⟩
    · by_cases hi : i < n
      · exact vw i hi
      · exact (v0 i (by omega)).trans (span_out hw w1 i (by omega)).symm
    · have hkk := kept_mem.mpr ⟨hk, hn⟩
      refine (u2 k).trans ?_
      rw [pick_in (by omega)]
      exact u1.ind (Q := fun u => Cg p (u (order.idxOf k)) 0) (fun u hu => hu _) (fun a b u c ha hb q => (q _).trans ((ha.add ((Cg.refl c).mul hb)).trans (.of (by omega)))) fun r hr => .of (zeroTo_iff.mp (List.mem_filter.mp hr).2 _ (idx k hkk))
  · rintro ⟨h1, h2⟩
    have u1 : Span p R (pick order.length (fun j => order.getD j 0) v) := (rS _).mpr (h1.pick fun r _ j => at_pick r j)
    have u2 : ∀ j < (keptI n lost).length, Cg p (pick order.length (fun j => order.getD j 0) v j) 0 := fun j hj => by
      obtain ⟨a, b⟩ := kept_mem.mp (pre j hj)
      have : j < order.length := by
        have := nodup_lt n (keptI n lost) (kept_nd n lost) lt
        by_cases e : j < n
        · omega
        · omega
      rw [pick_in this]
      exact h2 _ a b
    have u3 := red_part rR u1 (q := zeroTo (keptI n lost).length) u2 fun r hr => by
      by_cases z : (keptI n lost).length ≤ ldg r
      · exact .inl (zeroTo_iff.mpr fun j hj => (rR.lead hr).2.2.2 j (by omega))
      · exact .inr (by omega)
    refine (u3.pick (fun r _ j => back_pick (order := order) r j)).cg fun i => ?_
    by_cases hi : i < n
    · exact .of (round fl fa hi).symm
    · rw [pick_out (by omega)]
      exact span_out hw h1 i (by omega)
theorem open_eq (hp : isP p) (h : Red p n rows) (lost : List Nat) : wordsI p n rows lost = openW p n rows lost := by
  obtain ⟨a, b⟩ := words_red hp h lost
  obtain ⟨c, d, _⟩ := reduced_red hp (open_wd hp h.wd lost)
  exact Red.uniq hp.two a c b d fun v => (words_span hp h).trans (open_span hp h.wd).symm
/-! ### one more column -/
theorem lead_of_take {l : Nat} (h : lead r = some l) (hl : l < m) : lead (r.take m) = some l := by
  obtain ⟨a, b, c⟩ := lead_some h
  exact lead_of_first (by rw [List.length_take]; omega) (by rw [gI_take hl]; exact b) fun j hj => by rw [gI_take (by omega)]; exact c j hj
theorem ldg_take (h : Red p n rows) (hr : r ∈ rows) (hl : ldg r < m) : ldg (r.take m) = ldg r := ldg_some (lead_of_take (h.lead hr).1 hl)
theorem take_red (h : Red p n rows) (ha : Asc rows) (hm : m ≤ n) : Red p m ((rows.filter fun r => decide (ldg r < m)).map (List.take m)) ∧ Asc ((rows.filter fun r => decide (ldg r < m)).map (List.take m)) := by
  have mem : ∀ {r}, r ∈ rows.filter (fun r => decide (ldg r < m)) → r ∈ rows ∧ ldg r < m := fun {r} hr => ⟨(List.mem_filter.mp hr).1, of_decide_eq_true (List.mem_filter.mp hr).2⟩
  refine ⟨⟨fun x hx => ?_, fun x hx => ?_, ?_⟩, ?_⟩
  · obtain ⟨r, hr, rfl⟩ := List.mem_map.mp hx
    obtain ⟨w1, w2⟩ := h.wd r (mem hr).1
    exact ⟨by rw [List.length_take]; omega, fun y hy => w2 y (List.mem_of_mem_take hy)⟩
  · obtain ⟨r, hr, rfl⟩ := List.mem_map.mp hx
    obtain ⟨h1, h2⟩ := mem hr
    obtain ⟨l1, l2, _⟩ := h.lead h1
    exact ⟨ldg r, lead_of_take l1 h2, by rw [gI_take h2]; exact l2⟩
  · refine List.pairwise_map.mpr (List.Pairwise.imp_of_mem (fun {a b} ha hb q => ?_) (h.off.filter _))
    obtain ⟨a1, a2⟩ := mem ha
    obtain ⟨b1, b2⟩ := mem hb
    rw [ldg_take h a1 a2, ldg_take h b1 b2, gI_take a2, gI_take b2]
    exact q
  · refine List.pairwise_map.mpr (List.Pairwise.imp_of_mem (fun {a b} ha hb q => ?_) (List.Pairwise.filter _ ha))
    obtain ⟨a1, a2⟩ := mem ha
    obtain ⟨b1, b2⟩ := mem hb
    rw [ldg_take h a1 a2, ldg_take h b1 b2]
    exact q
theorem at_wd (hp : isP p) (hw : ∀ r ∈ rows, Wd p n r) (ks : List Nat) : ∀ x ∈ rows.map (atP ks), Wd p ks.length x := fun x hx => by
  obtain ⟨r, hr, rfl⟩ := List.mem_map.mp hx
  have := hp.two
  exact atP_wd (by omega) (hw r hr) ks
/-- the rows of the fewer columns -/
theorem less_cols (hp : isP p) (hw : ∀ r ∈ rows, Wd p n r) (ks : List Nat) (k : Nat) : reducedI p (rows.map (atP ks)) = ((reducedI p (rows.map (atP (ks ++ [k])))).filter fun r => decide (ldg r < ks.length)).map (List.take ks.length) := by
  have lk : (ks ++ [k]).length = ks.length + 1 := by rw [List.length_append]; rfl
  obtain ⟨rR, rA, rS, _⟩ := reduced_red hp (at_wd hp hw (ks ++ [k]))
  obtain ⟨sR, sA, sS, _⟩ := reduced_red hp (at_wd hp hw ks)
  obtain ⟨tR, tA⟩ := take_red (m := ks.length) rR rA (by omega)
  have e : rows.map (atP ks) = (rows.map (atP (ks ++ [k]))).map (List.take ks.length) := by
    rw [List.map_map]
    refine List.map_congr_left fun r _ => ?_
    show _ = ((ks ++ [k]).map fun k => gI r k).take ks.length
    rw [List.map_append, List.take_left' (by rw [List.length_map])]
    rfl
  refine Red.uniq hp.two sR tR sA tA (sS.trans ?_)
  rw [e]
  refine .of (fun x hx => ?_) fun x hx => ?_
  · obtain ⟨y, hy, rfl⟩ := List.mem_map.mp hx
    have h1 := ((rS _).mpr (.mem hy)).pick (m := ks.length) (σ := fun j => j) (φ := List.take ks.length) fun r _ j => take_pick r j
    refine Span.cg ?_ fun j => .of (take_pick y j)
    refine h1.trans fun z hz => ?_
    obtain ⟨r, hr, rfl⟩ := List.mem_map.mp hz
    by_cases hl : ldg r < ks.length
    · exact .mem (List.mem_map.mpr ⟨r, List.mem_filter.mpr ⟨hr, decide_eq_true hl⟩, rfl⟩)
    · refine .zero fun j => .of ?_
      by_cases q : j < ks.length
      · rw [gI_take q, (rR.lead hr).2.2.2 j (by omega)]
      · exact gI_out (by rw [List.length_take]; omega)
  · obtain ⟨r, hr, rfl⟩ := List.mem_map.mp hx
    have h1 : Span p _ _ := ((rS _).mp (.mem (List.mem_filter.mp hr).1)).pick (m := ks.length) (σ := fun j => j) (φ := List.take ks.length) fun r _ j => take_pick r j
    exact h1.cg fun j => .of (take_pick r j)
theorem crank_less (hp : isP p) (hw : ∀ r ∈ rows, Wd p n r) (ks : List Nat) (k : Nat) : crankI p rows ks = ((reducedI p (rows.map (atP (ks ++ [k])))).filter fun r => decide (ldg r < ks.length)).length := by
  unfold crankI
  by_cases h : ks = []
  · subst h
    rw [if_pos rfl, List.filter_eq_nil_iff.mpr fun r _ => by simp]
    rfl
  · rw [if_neg h, less_cols hp hw ks k, List.length_map]
theorem crank_more (ks : List Nat) (k : Nat) : crankI p rows (ks ++ [k]) = (reducedI p (rows.map (atP (ks ++ [k])))).length := by
  unfold crankI
  rw [if_neg (by simp)]
/-- a column is made by others: no word is 0 there, and not here -/
theorem crank_eq (hp : isP p) (hw : ∀ r ∈ rows, Wd p n r) : crankI p rows ks = crankI p rows (ks ++ [k]) ↔ ∀ v, Span p rows v → (∀ j ∈ ks, Cg p (v j) 0) → Cg p (v k) 0 := by
  have lk : (ks ++ [k]).length = ks.length + 1 := by rw [List.length_append]; rfl
  rw [crank_less hp hw ks k, crank_more, List.length_filter_eq_length_iff]
  obtain ⟨rR, rA, rS, _⟩ := reduced_red hp (at_wd hp hw (ks ++ [k]))
  have g1 : ∀ j (hj : j < ks.length), (ks ++ [k]).getD j 0 = ks[j] := fun j hj => by rw [List.getD_eq_getElem?_getD, List.getElem?_append_left hj, List.getElem?_eq_getElem hj]; rfl
  have g2 : (ks ++ [k]).getD ks.length 0 = k := by rw [List.getD_eq_getElem?_getD, List.getElem?_append_right (Nat.le_refl _), Nat.sub_self]; rfl
  constructor
  · intro h v hv h0
    apply Classical.byContradiction
    intro no
    have hu := (rS _).mpr (hv.pick (φ := atP (ks ++ [k])) fun r _ j => at_pick r j)
    obtain ⟨s, hs, e⟩ := lead_in rR hu (l := ks.length) (fun i hi => by
      rw [pick_in (by omega), g1 i hi]
      exact h0 _ (List.getElem_mem hi)) (by rw [pick_in (by omega), g2]; exact no)
    have := of_decide_eq_true (h s hs)
    omega
  · intro h r hr
    obtain ⟨_, l1, l2, l3⟩ := rR.lead hr
    refine decide_eq_true ?_
    apply Classical.byContradiction
    intro no
    have e : ldg r = ks.length := by omega
    obtain ⟨v, v1, v2⟩ := ((rS _).mp (.mem hr)).lift (φ := atP (ks ++ [k])) fun r _ j => at_pick r j
    have a := h v v1 fun j hj => by
      obtain ⟨i, hi, rfl⟩ := List.getElem_of_mem hj
      have := v2 i
      rw [pick_in (by omega), g1 i hi, l3 i (by omega)] at this
      exact this.symm
    have b := v2 ks.length
    rw [pick_in (by omega), g2, ← e, l1] at b
    exact not_one (x := 0) hp.two (b.trans a)
/-! ### the pattern -/
theorem fold_least (Q : Nat → Bool) : ∀ (m t0 : Nat), ((List.range m).reverse.foldl (fun t far => if Q far = true then far else t) t0 < m ∧ Q ((List.range m).reverse.foldl (fun t far => if Q far = true then far else t) t0) = true ∧ ∀ j < (List.range m).reverse.foldl (fun t far => if Q far = true then far else t) t0, Q j = false) ∨
    ((List.range m).reverse.foldl (fun t far => if Q far = true then far else t) t0 = t0 ∧ ∀ j < m, Q j = false)
  | 0, t0 => .inr ⟨rfl, fun j hj => absurd hj (Nat.not_lt_zero j)⟩
  | m + 1, t0 => by
    rw [List.range_succ, List.reverse_append]
    show ((List.range m).reverse.foldl _ (if Q m = true then m else t0) < m + 1 ∧ Q ((List.range m).reverse.foldl _ (if Q m = true then m else t0)) = true ∧ ∀ j < (List.range m).reverse.foldl _ (if Q m = true then m else t0), Q j = false) ∨ ((List.range m).reverse.foldl _ (if Q m = true then m else t0) = t0 ∧ ∀ j < m + 1, Q j = false)
    rcases fold_least Q m (if Q m = true then m else t0) with ⟨a, b, c⟩ | ⟨a, b⟩
    · exact .inl ⟨by omega, b, c⟩
    · rw [a]
      cases q : Q m with
      | true =>
        rw [if_pos rfl]
        exact .inl ⟨by omega, q, b⟩
      | false =>
        rw [if_neg (by decide)]
        refine .inr ⟨rfl, fun j hj => ?_⟩
        by_cases e : j = m
        · rw [e]; exact q
        · exact b j (by omega)
theorem greatest {Q : Nat → Prop} : ∀ l : Nat, (∃ q, q < l ∧ Q q) → ∃ q, q < l ∧ Q q ∧ ∀ j, q < j → j < l → ¬ Q j
  | 0, ⟨q, h, _⟩ => absurd h (Nat.not_lt_zero q)
  | l + 1, ⟨q, h, hq⟩ => by
    by_cases z : Q l
    · exact ⟨l, by omega, z, fun j h1 h2 => absurd h1 (by omega)⟩
    · have : q ≠ l := fun e => z (e ▸ hq)
      obtain ⟨a, a1, a2, a3⟩ := greatest l ⟨q, by omega, hq⟩
      refine ⟨a, by omega, a2, fun j h1 h2 => ?_⟩
      by_cases e : j = l
      · rw [e]; exact z
      · exact a3 j h1 (by omega)
theorem span_at (hp : isP p) (hw : ∀ r ∈ rows, Wd p n r) {far : Nat} : spanAt p n rows k far = true ↔ ∀ v, Span p rows v → (∀ j ∈ ringI n (k + 1) far, Cg p (v j) 0) → Cg p (v k) 0 := by
  unfold spanAt
  rw [decide_eq_true_eq, ← crank_eq hp hw]
  omega
theorem mem_ring {s l : Nat} : i ∈ ringI n s l ↔ ∃ j, j < l ∧ (s + j) % n = i := by
  unfold ringI
  rw [List.mem_map]
  constructor
  · rintro ⟨j, hj, e⟩; exact ⟨j, List.mem_range.mp hj, e⟩
  · rintro ⟨j, hj, e⟩; exact ⟨j, List.mem_range.mpr hj, e⟩
/-- each place is so far behind s -/
theorem behind (hn : 0 < n) (s : Nat) (hi : i < n) : ∃ q < n, (s + q) % n = i := by
  refine ⟨(i + n - s % n) % n, Nat.mod_lt _ hn, ?_⟩
  have := Nat.mod_lt s hn
  rw [Nat.add_mod_mod, ← Nat.mod_add_mod, show s % n + (i + n - s % n) = i + n by omega, Nat.add_mod_right, Nat.mod_eq_of_lt hi]
/-- no open word on a stretch: no throw of it lands behind the ring -/
theorem far_iff (hp : isP p) (h : Red p n rows) (hn : 0 < n) {s l : Nat} (hl : l ≤ n) : openW p n rows (ringI n s l) = [] ↔ ∀ k < l, throwP p n rows ((s + k) % n) < n - k := by
  have hw := h.wd
  have spec := fun k => fold_least (spanAt p n rows k) n n
  have nil : openW p n rows (ringI n s l) = [] ↔ ∀ v, Span p rows v → (∀ k < n, k ∉ ringI n s l → Cg p (v k) 0) → ∀ i, Cg p (v i) 0 := by
    obtain ⟨oR, _, _, _⟩ := reduced_red hp (open_wd hp hw (ringI n s l))
    constructor
    · intro e v h1 h2 i
      have := (open_span hp hw (lost := ringI n s l)).mpr ⟨h1, h2⟩
      rw [e] at this
      cases this with
      | zero q => exact q i
      | step c hr _ _ => cases hr
    · intro q
      cases e : openW p n rows (ringI n s l) with
      | nil => rfl
      | cons r t =>
        have hr : r ∈ openW p n rows (ringI n s l) := by rw [e]; exact List.mem_cons_self
        obtain ⟨a, b⟩ := (open_span hp hw).mp (Span.mem (p := p) hr)
        have := q (gI r) a b (ldg r)
        rw [(oR.lead hr).2.1] at this
        exact (not_one (x := 0) hp.two this).elim
  rw [nil]
  constructor
  · intro q k hk
    apply Classical.byContradiction
    intro no
    have nsp : spanAt p n rows ((s + k) % n) (n - 1 - k) = false := by
      rcases spec ((s + k) % n) with ⟨_, _, c⟩ | ⟨_, b⟩
      · exact c _ (by unfold throwP at no; omega)
      · exact b _ (by omega)
    have : ¬ ∀ v, Span p rows v → (∀ j ∈ ringI n ((s + k) % n + 1) (n - 1 - k), Cg p (v j) 0) → Cg p (v ((s + k) % n)) 0 := fun z => by
      rw [(span_at hp hw).mpr z] at nsp
      cases nsp
    apply this
    intro v v1 v2
    refine q v v1 (fun i hi hni => ?_) _
    obtain ⟨b, hb, e⟩ := behind hn s hi
    have hbl : l ≤ b := by
      apply Classical.byContradiction
      intro z
      exact hni (mem_ring.mpr ⟨b, by omega, e⟩)
    refine v2 i (mem_ring.mpr ⟨b - k - 1, by omega, ?_⟩)
    rw [show (s + k) % n + 1 + (b - k - 1) = (s + k) % n + (b - k) by omega, Nat.mod_add_mod, show s + k + (b - k) = s + b by omega]
    exact e
  · intro q v v1 v2 i
    apply Classical.byContradiction
    intro no
    have hi : i < n := by
      apply Classical.byContradiction
      intro z
      exact no (span_out hw v1 i (by omega))
    have hm : i ∈ ringI n s l := by
      apply Classical.byContradiction
      intro z
      exact no (v2 i hi z)
    obtain ⟨j, hj, e⟩ := mem_ring.mp hm
    obtain ⟨b, b1, b2, b3⟩ := greatest (Q := fun q => ¬ Cg p (v ((s + q) % n)) 0) l ⟨j, hj, by rw [e]; exact no⟩
    have ht := q b b1
    rcases spec ((s + b) % n) with ⟨a1, a2, _⟩ | ⟨a1, _⟩
    · apply b2
      refine (span_at hp hw).mp a2 v v1 fun x hx => ?_
      obtain ⟨c, hc, e2⟩ := mem_ring.mp hx
      have hc : c < throwP p n rows ((s + b) % n) := hc
      rw [show (s + b) % n + 1 + c = (s + b) % n + (1 + c) by omega, Nat.mod_add_mod, show s + b + (1 + c) = s + (b + 1 + c) by omega] at e2
      by_cases hlt : b + 1 + c < l
      · have := b3 (b + 1 + c) (by omega) hlt
        rw [e2] at this
        exact Classical.byContradiction this
      · refine v2 x (by rw [← e2]; exact Nat.mod_lt _ hn) fun hx2 => ?_
        obtain ⟨d, hd, e3⟩ := mem_ring.mp hx2
        have e4 := e3.trans e2.symm
        have c1 : Cg (n : Nat) ((s + d : Nat) : Int) ((s + (b + 1 + c) : Nat) : Int) := Cg.mod_iff.mpr (by rw [← nat_mod, ← nat_mod, e4])
        have c2 : Cg (n : Nat) (d : Int) ((b + 1 + c : Nat) : Int) := by
          have z := c1.sub (.refl (s : Int))
          rwa [show ((s + d : Nat) : Int) - (s : Int) = d by omega, show ((s + (b + 1 + c) : Nat) : Int) - (s : Int) = ((b + 1 + c : Nat) : Int) by omega] at z
        have := c2.eq (by omega) (by omega)
        omega
    · have : throwP p n rows ((s + b) % n) = n := a1
      omega
end
end Sh


set_option Elab.async false
set_option linter.all false
set_option maxRecDepth 100000
set_option maxHeartbeats 40000000
set_option autoImplicit false
/-! M11: columns and rows; weights; a word by its weights -/
namespace Sh
open PySem L2
section
variable {p : Int} {n m wide : Nat} {rows words vectors : List (List Int)} {r goal ws : List Int} {u v w : Vec} {i k : Nat} {ks : List Nat}
/-- by how much of each -/
theorem span_coef (h : Span p words v) : ∃ c : Nat → Int, ∀ x, Cg p (v x) (Su words.length fun k => c k * gI (words.getD k []) x) := by
  refine h.ind (Q := fun v => ∃ c : Nat → Int, ∀ x, Cg p (v x) (Su words.length fun k => c k * gI (words.getD k []) x)) (fun v hv => ⟨fun _ => 0, fun x => (hv x).trans (.of (Su.zero fun k _ => Int.zero_mul _).symm)⟩) (fun a b v c ha hb q => ?_) fun r hr => ?_
  · obtain ⟨ca, a1⟩ := ha
    obtain ⟨cb, b1⟩ := hb
    refine ⟨fun k => ca k + c * cb k, fun x => (q x).trans (((a1 x).add ((Cg.refl c).mul (b1 x))).trans (.of ?_))⟩
    rw [← Su.mulc, ← Su.add]
    exact Su.congr fun k _ => by grind
  · obtain ⟨t, ht, rfl⟩ := List.getElem_of_mem hr
    refine ⟨fun k => if k = t then 1 else 0, fun x => .of ?_⟩
    rw [← Su.one (n := words.length) (c := gI words[t] x) ht]
    refine Su.congr fun k _ => ?_
    show (if k = t then gI words[t] x else 0) = (if k = t then 1 else 0) * gI (words.getD k []) x
    by_cases e : k = t
    · rw [if_pos e, if_pos e, e, List.getD_eq_getElem?_getD, List.getElem?_eq_getElem ht]
      exact (Int.one_mul _).symm
    · rw [if_neg e, if_neg e, Int.zero_mul]
theorem full_free (h : Red p n rows) : rows.length = n ↔ freeI n rows = [] := by
  have lt : ∀ x ∈ rows.map ldg, x < n := fun x hx => by
    obtain ⟨r, hr, rfl⟩ := List.mem_map.mp hx
    exact (h.lead hr).2.2.1
  constructor
  · intro e
    apply List.eq_nil_iff_forall_not_mem.mpr
    intro f hf
    obtain ⟨f1, f2⟩ := mem_free.mp hf
    have := nodup_lt n (f :: rows.map ldg) (List.pairwise_cons.mpr ⟨fun x hx e => by
      obtain ⟨r, hr, rfl⟩ := List.mem_map.mp hx
      exact f2 r hr e.symm, leads_nd h⟩) fun x hx => by
        rcases List.mem_cons.mp
              hx with rfl | hx
        · exact f1
        · exact lt x hx
    rw [List.length_cons, List.length_map] at this
    omega
  · intro e
    have h1 := red_len h
    have h2 := nd_sub (List.range n) (rows.map ldg) List.nodup_range fun x hx => by
      apply Classical.byContradiction
      intro no
      have : x ∈ freeI n rows := mem_free.mpr ⟨List.mem_range.mp hx, fun r hr e => no (List.mem_map.mpr ⟨r, hr, e⟩)⟩
      rw [e] at this
      cases this
    rw [List.length_range, List.length_map] at h2
    omega
def Triv (p : Int) (n : Nat) (rows : List (List Int)) : Prop := ∀ c : Vec, Orth p n rows c → ∀ i, Cg p (c i) 0
theorem full_triv (hp : isP p) (h : Red p n rows) : rows.length = n ↔ Triv p n rows := by
  rw [full_free h]
  constructor
  · intro e c hc i
    have := (dual_A hp h).mp hc
    rw [e] at this
    cases this with
    | zero q => exact q i
    | step _ hr _ _ => cases hr
  · intro q
    apply List.eq_nil_iff_forall_not_mem.mpr
    intro f hf
    obtain ⟨f1, f2⟩ := mem_free.mp hf
    have a := q _ ((dual_A hp h).mpr (.mem (List.mem_map.mpr ⟨f, hf, rfl⟩))) f
    have b := check_at hp h hf f1
    rw [if_pos rfl, sum_none fun s hs e => f2 s hs e.symm] at b
    exact not_one (x := 0) hp.two (b.symm.trans a)
theorem Triv.sp {A B : List (List Int)} (h : SpEq p A B) (q : Triv p n A) : Triv p n B := fun c hc => q c (hc.sp h.symm)
theorem crank_triv (hp : isP p) (hw : ∀ r ∈ rows, Wd p n r) : crankI p rows ks = ks.length ↔ Triv p ks.length (rows.map (atP ks)) := by
  obtain ⟨rR, _, rS, _⟩ := reduced_red hp (at_wd hp hw ks)
  unfold crankI
  by_cases h : ks = []
  · subst h
    rw [if_pos rfl]
    exact ⟨fun _ c hc i => hc.1 i (Nat.zero_le i), fun _ => rfl⟩
  · rw [if_neg h, full_triv hp rR]
    exact ⟨.sp rS, .sp rS.symm⟩
theorem inv_cg {c : Int} (hp : isP p) (h : ¬ Cg p c 0) : ∃ x, Cg p (x * c) 1 := by
  have hp2 := hp.two
  have b := modLt (show 0 < p by omega) c
  have ne : c % p ≠ 0 := fun e => h (Cg.trans (Cg.mod c).symm (.of e))
  obtain ⟨x, _, _, e⟩ := inv_ex hp (d := c % p) (by omega) b.2
  exact ⟨x, ((Cg.refl x).mul (Cg.mod c).symm).trans ((Cg.mod _).symm.trans (.of e))⟩
theorem col_at {t j : Nat} (hj : j < ks.length) (ht : t < rows.length) : gI ((ks.map (colI rows)).getD j []) t = gI (atP ks rows[t]) j := by
  rw [at_pick, pick_in hj, List.getD_eq_getElem?_getD, List.getElem?_map, List.getElem?_eq_getElem hj, List.getD_eq_getElem?_getD, List.getElem?_eq_getElem hj]
  show gI (rows.map fun r => gI r ks[j]) t = _
  conv => lhs; unfold gI
  rw [List.getD_eq_getElem?_getD, List.getElem?_map, List.getElem?_eq_getElem ht]
  rfl
/-- columns are free when no weights undo all rows -/
theorem cols_triv (hp : isP p) (hw : ∀ r ∈ rows, Wd p n r) (hk : ∀ k ∈ ks, k < n) : (reducedI p (ks.map (colI rows))).length = ks.length ↔ Triv p ks.length (rows.map (atP ks)) := by
  have hp2 := hp.two
  have cw : ∀ x ∈ ks.map (colI rows), Wd p rows.length x := fun x hx => by
    obtain ⟨k, h, rfl⟩ := List.mem_map.mp hx
    exact col_wd (by omega) hw (hk k h)
  have lc : (ks.map (colI rows)).length = ks.length := List.length_map _
  obtain ⟨_, _, _, gl⟩ := reduced_red hp cw
  obtain ⟨_, _, _, gf⟩ := gauss_red hp cw
  rw [gl]
  rw [lc] at gf
  rw [gf]
  have colw : ∀ j < ks.length, (ks.map (colI rows))[j]? = some ((ks.map (colI rows)).getD j []) := fun j hj => by rw [List.getD_eq_getElem?_getD, List.getElem?_eq_getElem (by rw [lc]; exact hj)]; rfl
  have colO : ∀ j t, rows.length ≤ t → j < ks.length → gI ((ks.map (colI rows)).getD j []) t = 0 := fun j t ht hj => gI_out (by rw [(cw _ (List.mem_of_getElem? (colw j hj))).1]; exact ht)
  constructor
  · intro hF c hc i
    apply Classical.byContradiction
    intro no
    have hi : i < ks.length := by
      apply Classical.byContradiction
      intro z
      exact no (hc.1 i (by omega))
    obtain ⟨t, t1, t2, t3⟩ := greatest (Q := fun j => ¬ Cg p (c j) 0) ks.length ⟨i, hi, no⟩
    refine hF t _ t1 (colw t t1) ?_
    obtain ⟨x, hx⟩ := inv_cg hp t2
    have sp : Span p ((ks.map (colI rows)).take t) fun y => Su t fun j => (-(x * c j)) * gI ((ks.map (colI rows)).getD j []) y := span_su (g := fun j => (ks.map (colI rows)).getD j []) (c := fun j => -(x * c j)) t fun j hj => .inr (List.mem_of_getElem? (i := j) (by rw [List.getElem?_take_of_lt hj]; exact colw j (by omega)))
    refine sp.cg fun y => ?_
    by_cases hy : y < rows.length
    · have d : Cg p (Su ks.length fun j => gI (atP ks rows[y]) j * c j) 0 := hc.2 _ (List.mem_map.mpr ⟨rows[y], List.getElem_mem hy, rfl⟩)
      obtain ⟨q, hq⟩ : ∃ q, ks.length = (t + 1) + q := ⟨ks.length - (t + 1), by omega⟩
      rw [hq, Su.split] at d
      have z : Cg p (Su q fun j => gI (atP ks rows[y]) (t + 1 + j) * c (t + 1 + j)) 0 := (Su.cg (g := fun _ => 0) fun j hj => by
        have := t3 (t + 1 + j) (by omega) (by omega)
        exact ((Cg.refl _).mul (Classical.byContradiction this)).trans (.of (Int.mul_zero _))).trans (.of (Su.zero fun _ _ => rfl))
      have d2 := d.sub z
      have e1 : Su (t + 1) (fun j => gI (atP ks rows[y]) j * c j) = Su t (fun j => gI (atP ks rows[y]) j * c j) + gI (atP ks rows[y]) t * c t := rfl
      rw [e1] at d2
      have e2 : Su t (fun j => -(x * c j) * gI ((ks.map (colI rows)).getD j []) y) = -x * Su t fun j => gI (atP ks rows[y]) j * c j := by
        rw [← Su.mulc]
        exact Su.congr fun j hj => by rw [col_at (by omega) hy]; grind
      show Cg p _ (Su t fun j => -(x * c j) * gI ((ks.map (colI rows)).getD j []) y)
      rw [e2, col_at t1 hy]
      generalize Su t (fun j => gI (atP ks rows[y]) j * c j) = A at *
      generalize gI (atP ks rows[y]) t = B at *
      have d3 : Cg p (A + B * c t) 0 := Cg.trans (.of (by omega)) (d2.trans (.of (by omega)))
      have h1 := (Cg.refl x).mul d3
      have h2 := hx.mul (.refl B)
      exact (Cg.of (Int.one_mul B).symm).trans (h2.symm.trans ((Cg.of (by grind)).trans ((h1.add (.refl (-x * A))).trans (.of (by grind)))))
    · rw [colO t y (by omega) t1]
      exact .of (Su.zero fun j hj => by rw [colO j y (by omega) (by omega), Int.mul_zero]).symm
  · intro hT i w hi hwi hs
    obtain ⟨c, hc⟩ := span_coef hs
    have lt : ((ks.map (colI rows)).take i).length = i := by rw [List.length_take, lc]; omega
    rw [lt] at hc
    have ew : w = (ks.map (colI rows)).getD i [] := by rw [colw i hi] at hwi; exact (Option.some.inj hwi).symm
    have := hT (fun j => if j < i then c j else if j = i then -1 else 0) ⟨fun j hj => .of (by show (if j < i then c j else if j = i then (-1 : Int) else 0) = 0; rw [if_neg (by omega), if_neg (by omega)]), fun x hx => ?_⟩ i
    · rw [if_neg (by omega), if_pos rfl] at this
      exact not_one (x := 0) hp2 (this.neg.trans (.of (by omega)))
    · obtain ⟨r, hr, rfl⟩ := List.mem_map.mp hx
      obtain ⟨t, ht, rfl⟩ := List.getElem_of_mem hr
      obtain ⟨q, hq⟩ : ∃ q, ks.length = (i + 1) + q := ⟨ks.length - (i + 1), by omega⟩
      unfold dot
      rw [hq, Su.split, Su.zero (n := q) fun j hj => by (show _ * (if i + 1 + j < i then c (i + 1 + j) else if i + 1 + j = i then (-1 : Int) else 0) = 0); rw [if_neg (by omega), if_neg (by omega), Int.mul_zero], Int.add_zero]
      show Cg p (Su i _ + gI (atP ks rows[t]) i * (if i < i then c i else if i = i then -1 else 0)) 0
      rw [if_neg (by omega), if_pos rfl]
      have h1 := hc t
      rw [ew, col_at hi ht] at h1
      have e : Su i (fun j => gI (atP ks rows[t]) j * (if j < i then c j else if j = i then -1 else 0)) = Su i fun k => c k * gI (((ks.map (colI rows)).take i).getD k []) t := Su.congr fun j hj => by
        show _ * (if j < i then c j else if j = i then (-1 : Int) else 0) = _
        rw [if_pos hj, List.getD_eq_getElem?_getD, List.getElem?_take_of_lt hj, ← List.getD_eq_getElem?_getD, col_at (by omega) ht, Int.mul_comm]
      rw [e]
      exact (h1.symm.add (.refl (gI (atP ks rows[t]) i * -1))).trans (.of (by omega))
end
end Sh


set_option Elab.async false
set_option linter.all false
set_option maxRecDepth 100000
set_option maxHeartbeats 40000000
set_option autoImplicit false
/-! M12: weights are right -/
namespace Sh
open PySem L2
section
variable {p : Int} {n m wide many : Nat} {rows vectors : List (List Int)} {r goal ws vs : List Int} {u v w : Vec} {i k : Nat}
theorem gI_left {a b : List Int} (h : i < a.length) : gI (a ++ b) i = gI a i := by unfold gI; rw [List.getD_eq_getElem?_getD, List.getD_eq_getElem?_getD, List.getElem?_append_left h]
theorem gI_right {a b : List Int} : gI (a ++ b) (a.length + i) = gI b i := by unfold gI; rw [List.getD_eq_getElem?_getD, List.getD_eq_getElem?_getD, List.getElem?_append_right (by omega), show a.length + i - a.length = i by omega]
theorem lead_take_none (h : lead (ws.take m) = none) (hi : i < m) : gI ws i = 0 := by rw [← gI_take hi]; exact lead_none h i
/-- the first part is so much of each, as the second part tells -/
def Told (p : Int) (wide : Nat) (vectors : List (List Int)) (u : Vec) : Prop := ∀ i < wide, Cg p (u i) (Su vectors.length fun j => u (wide + j) * gI (vectors.getD j []) i)
theorem Told.zero (h : ∀ i, Cg p (u i) 0) : Told p wide vectors u := fun i _ => (h i).trans (Cg.symm ((Su.cg (g := fun _ => 0) fun j _ => ((h _).mul (.refl _)).trans (.of (Int.zero_mul _))).trans (.of (Su.zero fun _ _ => rfl))))
theorem Told.lin (c : Int) (hu : Told p wide vectors u) (hv : Told p wide vectors v) (hw : ∀ i, Cg p (w i) (u i + c * v i)) : Told p wide vectors w := fun i hi => by
  refine (hw i).trans (((hu i hi).add ((Cg.refl c).mul (hv i hi))).trans ?_)
  rw [← Su.mulc, ← Su.add]
  exact Su.cg fun j _ => (Cg.of (by grind)).trans (((hw (wide + j)).symm).mul (.refl _))
structure WOk (p : Int) (wide : Nat) (vectors : List (List Int)) (k : Nat) (rows : List (List Int)) : Prop where
  wd : ∀ r ∈ rows, Wd p (wide + vectors.length) r
  lt : ∀ r ∈ rows, ldg r < wide
  ech : Ech p rows
  told : ∀ u, Span p rows u → Told p wide vectors u
  all : ∀ j < k, ∃ u, Span p rows u ∧ ∀ i < wide, Cg p (u i) (gI (vectors.getD j []) i)
theorem ech_snoc (h : Ech p rows) (h1 : Cg p (gI r (ldg r)) 1) (h2 : ∀ a ∈ rows, Cg p (gI r (ldg a)) 0) : Ech p (rows ++ [r]) := by
  refine ⟨fun s hs => ?_, List.pairwise_append.mpr ⟨h.tri, List.pairwise_singleton _ _, fun a ha b hb => by rw [List.mem_singleton.mp hb]; exact h2 a ha⟩⟩
  rcases List.mem_append.mp hs with q | q
  · exact h.one s q
  · rw [List.mem_singleton.mp q]; exact h1
theorem w_step (hp : isP p) (hv : ∀ x ∈ vectors, Wd p wide x) (hk : vectors[k]? = some vs) (h : WOk p wide vectors k rows) : WOk p wide vectors (k + 1) (stepW p wide vectors.length rows ((k : Nat), vs)) := by
  have hp2 := hp.two
  have hkl : k < vectors.length := (List.getElem?_eq_some_iff.mp hk).1
  have vw := hv vs (List.mem_of_getElem? hk)
  have gk : vectors.getD k [] = vs := by rw [List.getD_eq_getElem?_getD, hk]; rfl
  have xw : Wd p (wide + vectors.length) (vs ++ unitI vectors.length ((k : Nat) : Int)) := wd_app vw (unit_wd hp2 _ _)
  have rw_ := rest_wd (p := p) (by omega) h.wd xw
  have rc := rest_cg (p := p) (by omega) h.wd xw
  have x1 : ∀ i < wide, gI (vs ++ unitI vectors.length ((k : Nat) : Int)) i = gI vs i := fun i hi => gI_left (by rw [vw.1]; exact hi)
  have x2 : ∀ j < vectors.length, gI (vs ++ unitI vectors.length ((k : Nat) : Int)) (wide + j) = if j = k then 1 else 0 := fun j hj => by
    have := gI_right (a := vs) (b := unitI vectors.length ((k : Nat) : Int)) (i := j)
    rw [vw.1] at this
    rw [this, unit_at hj]
  have xt : Told p wide vectors (gI (vs ++ unitI vectors.length ((k : Nat) : Int))) := fun i hi => by
    rw [x1 i hi]
    refine Cg.trans (.of (Su.one (n := vectors.length) (c := gI vs i) hkl).symm) (.of (Su.congr fun j hj => ?_))
    rw [x2 j hj]
    by_cases e : j = k
    · rw [if_pos e, if_pos e, e, gk, Int.one_mul]
    · rw [if_neg e, if_neg e, Int.zero_mul]
  have sp : Span p rows fun i => gI (vs ++ unitI vectors.length ((k : Nat) : Int)) i - gI (restI p rows (vs ++ unitI vectors.length ((k : Nat) : Int))) i := (projR_span (v := gI (vs ++ unitI vectors.length ((k : Nat) : Int)))).cg fun i => (Cg.refl _).sub (rc i)
  have rest0 : ∀ a ∈ rows, Cg p (gI (restI p rows (vs ++ unitI vectors.length ((k : Nat) : Int))) (ldg a)) 0 := fun a ha => (rc _).trans (projR_at h.ech a ha)
  generalize hx : vs ++ unitI vectors.length ((k : Nat) : Int) = x at *
  cases q : lead ((restI p rows x).take wide) with
  | none =>
    have e : stepW p wide vectors.length rows ((k : Nat), vs) = rows := stepW_none (q := (((k : Nat) : Int), vs)) (by show lead ((restI p rows (vs ++ unitI vectors.length ((k : Nat) : Int))).take wide) = none; rw [hx]; exact q)
    rw [e]
    refine ⟨h.wd, h.lt, h.ech, h.told, fun j hj => ?_⟩
    by_cases e : j = k
    · subst e
      refine ⟨_, sp, fun i hi => ?_⟩
      rw [gk, lead_take_none q hi, x1 i hi]
      exact .of (by omega)
    · exact h.all j (by omega)
  | some l =>
    have e : stepW p wide vectors.length rows ((k : Nat), vs) = rows ++ [ledI p (restI p rows x)] := by
      have := stepW_some (p := p) (rows := rows) (wide := wide) (m := vectors.length) (q := (((k : Nat) : Int), vs)) (l := l) (by show lead ((restI p rows (vs ++ unitI vectors.length ((k : Nat) : Int))).take wide) = some l; rw [hx]; exact q)
      rw [this]
      show rows ++ [ledI p (restI p rows (vs ++ unitI vectors.length ((k : Nat) : Int)))] = _
      rw [hx]
    rw [e]
    obtain ⟨q1, q2⟩ := lead_take q
    obtain ⟨l1, l2, l3⟩ := led_spec hp rw_ q1
    have le := ldg_some l2
    have ls := led_span (rows := rows) hp rw_ (by rw [q1]; simp)
    have rs : Span p (rows ++ [ledI p (restI p rows x)]) (gI (restI p rows x)) := (ls _).mpr (.mem (List.mem_append_right _ List.mem_cons_self))
    have up : ∀ {u : Vec}, Span p rows u → Span p (rows ++ [ledI p (restI p rows x)]) u := fun hu => hu.mono fun r hr => List.mem_append_left _ hr
    refine ⟨fun r hr => ?_, fun r hr => ?_, ech_snoc h.ech (by rw [le, l3]; exact .refl 1) fun a ha => ?_, fun u hu => ?_, fun j hj => ?_⟩
    · rcases List.mem_append.mp hr with z | z
      · exact h.wd r z
      · rw [List.mem_singleton.mp z]; exact l1
    · rcases List.mem_append.mp hr with z | z
      · exact h.lt r z
      · rw [List.mem_singleton.mp z, le]; exact q2
    · exact (times_cg (p := p) (ws := restI p rows x) (ldg a)).trans (((Cg.refl _).mul (rest0 a ha)).trans (.of (Int.mul_zero _)))
    · have rt : Told p wide vectors (gI (restI p rows x)) := (xt.lin (-1) (h.told _ sp)) fun i => .of (by omega)
      refine ((ls u).mp hu).ind (Q := Told p wide vectors) (fun v hv => .zero hv) (fun a b v c ha hb q => ha.lin c hb q) fun r hr => ?_
      rcases List.mem_append.mp hr with z | z
      · exact h.told _ (.mem z)
      · rw [List.mem_singleton.mp z]; exact rt
    · by_cases e : j = k
      · subst e
        refine ⟨_, (up sp).add rs, fun i hi => ?_⟩
        rw [gk, x1 i hi]
        exact .of (by omega)
      · obtain ⟨u, u1, u2⟩ := h.all j (by omega)
        exact ⟨u, up u1, u2⟩
theorem w_all (hp : isP p) (hv : ∀ x ∈ vectors, Wd p wide x) : ∀ k, k ≤ vectors.length → WOk p wide vectors k (((enumI vectors).take k).foldl (stepW p wide vectors.length) [])
  | 0, _ => ⟨fun r h => (List.not_mem_nil h).elim, fun r h => (List.not_mem_nil h).elim, ⟨fun r h => (List.not_mem_nil h).elim, List.Pairwise.nil⟩, fun u hu => (by
      cases hu with
      | zero h => exact .zero h
      | step _ hr _ _ => cases hr), fun j hj => absurd hj (Nat.not_lt_zero j)⟩
  | k + 1, hk => by
    have ih := w_all hp hv k (by omega)
    have hvk : vectors[k]? = some vectors[k] := List.getElem?_eq_getElem (by omega)
    have he : (enumI vectors)[k]? = some (((k : Nat) : Int), vectors[k]) := by rw [enumI_get, hvk]; rfl
    rw [take_snoc he, List.foldl_append]
    exact w_step hp hv hvk ih
theorem w_rows (hp : isP p) (hv : ∀ x ∈ vectors, Wd p wide x) : WOk p wide vectors vectors.length (rowsW p wide vectors) := by
  have := w_all hp hv vectors.length (Nat.le_refl _)
  rwa [List.take_of_length_le (by unfold enumI; rw [List.length_mapIdx]; exact Nat.le_refl _)] at this
theorem unit_neg {j : Nat} : gI (unitI m (-1)) j = 0 := by
  by_cases h : j < m
  · unfold gI unitI
    rw [List.getD_eq_getElem?_getD,
          List.getElem?_map, List.getElem?_range h]
    show (if (j : Int) = -1 then (1 : Int) else 0) = 0
    exact if_neg (by omega)
  · exact gI_out (by rw [unit_len]; omega)
/-- the weights: by them the goal is made; none, and it is not -/
theorem weights_ok (hp : isP p) (hv : ∀ x ∈ vectors, Wd p goal.length x) (hg : Wd p goal.length goal) : (weightsI p vectors goal = none → ¬ Span p vectors (gI goal)) ∧
    ∀ ws, weightsI p vectors goal = some ws → Wd p vectors.length ws ∧ ∀ i < goal.length, Cg p (gI goal i) (Su vectors.length fun j => gI ws j * gI (vectors.getD j []) i) := by
  have hp2 := hp.two
  have W := w_rows hp hv
  have xw : Wd p (goal.length + vectors.length) (goal ++ unitI vectors.length (-1)) := wd_app hg (unit_wd hp2 _ _)
  have rc := rest_cg (p := p) (by omega) W.wd xw
  have rw_ := rest_wd (p := p) (by omega) W.wd xw
  have x1 : ∀ i < goal.length, gI (goal ++ unitI vectors.length (-1)) i = gI goal i := fun i hi => gI_left hi
  have x2 : ∀ j, gI (goal ++ unitI vectors.length (-1)) (goal.length + j) = 0 := fun j => by rw [gI_right, unit_neg]
  unfold weightsI
  generalize goal ++ unitI vectors.length (-1) = x at *
  simp only []
  have sp : Span p (rowsW p goal.length vectors) fun i => gI x i - gI (restI p (rowsW p goal.length vectors) x) i := (projR_span (v := gI x)).cg fun i => (Cg.refl _).sub (rc i)
  cases q : lead ((restI p (rowsW p goal.length vectors) x).take goal.length) with
  | none =>
    refine ⟨(fun h => by cases h), fun ws h => ?_⟩
    have h := Option.some.inj h
    have hl : ws.length = vectors.length := by rw [← h, List.length_map, List.length_drop, rw_.1]; omega
    have gw : ∀ j < vectors.length, gI ws j = (-gI (restI p (rowsW p goal.length vectors) x) (goal.length + j)) % p := fun j hj => by
      rw [← h]
      conv => lhs; unfold gI
      rw [List.getD_eq_getElem?_getD, List.getElem?_map, List.getElem?_drop, gI_get (by rw [rw_.1]; omega)]
      rfl
    refine ⟨⟨hl, fun y hy => ?_⟩, fun i hi => ?_⟩
    · rw [← h] at hy
      obtain ⟨d, _, rfl⟩ := List.mem_map.mp hy
      exact modLt (by omega) _
    · have t := W.told _ sp i hi
      refine Cg.trans (.of ?_) (t.trans (Su.cg fun j hj => ?_))
      · show _ = gI x i - gI (restI p (rowsW p goal.length vectors) x) i
        rw [x1 i hi, lead_take_none q hi]
        omega
      · rw [x2 j, gw j hj]
        exact ((Cg.of (by omega)).trans (Cg.mod _).symm).mul (.refl _)
  | some l =>
    refine ⟨fun _ hs => ?_, fun ws h => by cases h⟩
    have : ∃ u, Span p (rowsW p goal.length vectors) u ∧ ∀ i < goal.length, Cg p (u i) (gI goal i) := by
      refine hs.ind (Q := fun v => ∃ u, Span p (rowsW p goal.length vectors) u ∧ ∀ i < goal.length, Cg p (u i) (v i)) (fun v hv => ⟨fun _ => 0, .zero fun i => .refl 0, fun i _ => (hv i).symm⟩) (fun a b v c ha hb q => ?_) fun r hr => ?_
      · obtain ⟨ua, a1, a2⟩ := ha
        obtain ⟨ub, b1, b2⟩ := hb
        exact ⟨_, a1.add (b1.smul c), fun i hi => ((a2 i hi).add ((Cg.refl c).mul (b2 i hi))).trans (q i).symm⟩
      · obtain ⟨j, hj, rfl⟩ := List.getElem_of_mem hr
        have := W.all j hj
        rwa [List.getD_eq_getElem?_getD, List.getElem?_eq_getElem hj] at this
    obtain ⟨u, u1, u2⟩ := this
    obtain ⟨q1, q2⟩ := lead_take q
    obtain ⟨_, ne, _⟩ := lead_some q1
    have lw : l < goal.length + vectors.length := by omega
    refine ne ((Cg.zero (p := p) ?_ (rw_.get lw (by omega))))
    refine (rc l).trans ?_
    have e : projR (rowsW p goal.length vectors) (gI x) l = projR (rowsW p goal.length vectors) (fun i => (gI x i - u i) + 1 * u i) l := by
      congr 1
      funext i
      omega
    rw [e, projR_lin]
    have a := projR_id (p := p) (rows := rowsW p goal.length vectors) (v := fun i => gI x i - u i) (fun r hr => by
      have := W.lt r hr
      show Cg p (gI x (ldg r) - u (ldg r)) 0
      rw [x1 _ this]
      exact ((Cg.refl _).sub (u2 _ this)).trans (.of (by omega))) l
    have b := (span_iff W.ech).mp u1 l
    have c : Cg p (gI x l - u l) 0 := by rw [x1 l q2]; exact ((Cg.refl _).sub (u2 l q2)).trans (.of (by omega))
    exact ((a.trans c).add ((Cg.refl 1).mul b)).trans (.of (by omega))
/-! ### a word by its weights -/
theorem add_ok {a b : List Int} (hp : 0 < p) (ha : Wd p n a) (hb : Wd p n b) : Wd p n (addI p a b) ∧ ∀ i, Cg p (gI (addI p a b) i) (gI a i + gI b i) := by
  have hl : (addI p a b).length = n := by unfold addI; rw [List.length_map, List.length_zip, ha.1, hb.1]; omega
  have at_ : ∀ i < n, gI (addI p a b) i = if p ≤ gI a i + gI b i then gI a i + gI b i - p else gI a i + gI b i := fun i hi => by
    conv => lhs; unfold gI addI
    rw [List.getD_eq_getElem?_getD, List.getElem?_map, List.getElem?_zip_eq_some (z := (gI a i, gI b i)) |>.mpr ⟨gI_get (by rw [ha.1]; exact hi), gI_get (by rw [hb.1]; exact hi)⟩]
    rfl
  refine ⟨⟨hl, fun x hx => ?_⟩, fun i => ?_⟩
  · obtain ⟨i, hi, rfl⟩ :=
          List.getElem_of_mem hx
    have e := gI_get hi
    rw [List.getElem?_eq_getElem hi] at e
    rw [Option.some.inj e, at_ i (by omega)]
    have a1 := ha.get (i := i) (by omega) hp
    have b1 := hb.get (i := i) (by omega) hp
    split <;> omega
  · by_cases hi : i < n
    · rw [at_ i hi]
      split
      · exact ⟨-1, by omega⟩
      · exact .refl _
    · rw [gI_out (by omega), gI_out (ws := a) (by rw [ha.1]; omega), gI_out (ws := b) (by rw [hb.1]; omega)]
      exact .refl 0
theorem fold_ok (hp : 0 < p) : ∀ (l : List (Int × List Int)) (w0 : List Int), (∀ q ∈ l, Wd p n q.2) → Wd p n w0 → Wd p n (l.foldl (fun word q => addI p word (timesI p q.1 q.2)) w0) ∧ ∀ i, Cg p (gI (l.foldl (fun word q => addI p word (timesI p q.1 q.2)) w0) i) (gI w0 i + (l.map fun q => q.1 * gI q.2 i).sum)
  | [], w0, _, h => ⟨h, fun i => .of (by show gI w0 i = gI w0 i + 0; omega)⟩
  | q :: l, w0, hl, h => by
    have hq := hl q List.mem_cons_self
    obtain ⟨a1, a2⟩ := add_ok hp h (Wd.times (d := q.1) hp hq.1)
    obtain ⟨b1, b2⟩ := fold_ok hp l _ (fun q hq => hl q (List.mem_cons_of_mem _ hq)) a1
    refine ⟨b1, fun i => (b2 i).trans ?_⟩
    rw [List.map_cons,
          List.sum_cons]
    exact (((a2 i).trans ((Cg.refl _).add (times_cg i))).add (.refl _)).trans (.of (by omega))
theorem zip_su (i : Nat) : ∀ (ws : List Int) (rows : List (List Int)), ws.length = rows.length → ((ws.zip rows).map fun q => q.1 * gI q.2 i).sum = Su rows.length fun j => gI ws j * gI (rows.getD j []) i
  | [], [], _ => rfl
  | [], _ :: _, h => by cases h
  | _ :: _, [], h => by cases h
  | w :: ws, r :: rows, h => by
    rw [List.zip_cons_cons, List.map_cons, List.sum_cons, List.length_cons, Su.first, zip_su i ws rows (by simpa using h)]
    rfl
theorem foldI_ok (hp : 0 < p) (hw : ∀ r ∈ rows, Wd p n r) (hl : ws.length = rows.length) : Wd p n (foldI p n (ws.zip rows)) ∧ ∀ i, Cg p (gI (foldI p n (ws.zip rows)) i) (Su rows.length fun j => gI ws j * gI (rows.getD j []) i) := by
  obtain ⟨a, b⟩ := fold_ok hp (ws.zip rows) (List.replicate n 0) (fun q hq => hw _ (List.of_mem_zip hq).2) ⟨List.length_replicate, fun x hx => by rw [(List.mem_replicate.mp hx).2]; omega⟩
  refine ⟨a, fun i => (b i).trans ?_⟩
  rw [zip_su i ws rows hl]
  have : gI (List.replicate n 0) i = 0 := by unfold gI; rw [List.getD_eq_getElem?_getD, List.getElem?_replicate]; split <;> rfl
  rw [this]
  exact .of (by omega)
theorem foldI_span (hp : 0 < p) (hw : ∀ r ∈ rows, Wd p n r) (hl : ws.length = rows.length) : Span p rows (gI (foldI p n (ws.zip rows))) :=
  (span_su (rows := rows) (c := gI ws) (g := fun j => rows.getD j []) rows.length fun j hj => .inr (by rw [List.getD_eq_getElem?_getD, List.getElem?_eq_getElem hj]; exact List.getElem_mem hj)).cg fun i => (foldI_ok hp hw hl).2 i
end
end Sh


set_option Elab.async false
set_option linter.all false
set_option maxRecDepth 100000
set_option maxHeartbeats 40000000
set_option autoImplicit false
/-! M13: filled -/
namespace Sh
open PySem L2
section
variable {p : Int} {n m : Nat} {rows : List (List Int)} {r f : List Int} {u v w : Vec} {i k : Nat} {ds : List (Option Int)} {ks : List Nat}
/-- a digit told -/
def tv (ds : List (Option Int)) (k : Nat) : Int := (ds.getD k none).getD 0
/-- a word with the told digits -/
def Ext (p : Int) (rows : List (List Int)) (ds : List (Option Int)) (v : Vec) : Prop := Span p rows v ∧ ∀ k ∈ heldI ds, Cg p (v k) (tv ds k)
theorem told_at (hi : i < ks.length) : gI (toldI ds ks) i = tv ds ks[i] := by
  unfold toldI
  conv => lhs; unfold gI
  rw [List.getD_eq_getElem?_getD, List.getElem?_map, List.getElem?_eq_getElem hi]
  rfl
theorem getD_at (hi : i < ks.length) : ks.getD i 0 = ks[i] := by rw [List.getD_eq_getElem?_getD, List.getElem?_eq_getElem hi]; rfl
theorem ext_iff : Span p (rows.map (atP (heldI ds))) (gI (toldI ds (heldI ds))) ↔ ∃ v, Ext p rows ds v := by
  constructor
  · intro h
    obtain ⟨v, v1, v2⟩ := h.lift fun r _ j => at_pick r j
    refine ⟨v, v1, fun k hk => ?_⟩
    obtain ⟨j, hj, rfl⟩ := List.getElem_of_mem hk
    have := v2 j
    rw [told_at hj, pick_in hj, getD_at hj] at this
    exact this.symm
  · rintro ⟨v, v1, v2⟩
    refine (v1.pick (φ := atP (heldI ds)) fun r _ j => at_pick r j).cg fun j => ?_
    by_cases hj : j < (heldI ds).length
    · rw [told_at hj, pick_in hj, getD_at hj]
      exact (v2 _ (List.getElem_mem hj)).symm
    · rw [pick_out (by omega), gI_out (by unfold toldI; rw [List.length_map]; omega)]
      exact .refl 0
theorem share_cg (hf : Wd p n f) (hr : Wd p n r) (i : Nat) : Cg p (gI (shareI p n m ds ks f r) i) (gI f i + (if ldg r < m then tv ds (ks.getD (ldg r) 0) else 0) * gI r i) := by
  unfold shareI
  by_cases h : ldg r < m
  · rw [if_pos h, if_pos h]
    by_cases hi : i < n
    · conv => arg 2; unfold gI
      rw [List.getD_eq_getElem?_getD, List.getElem?_map, List.getElem?_range hi]
      exact Cg.mod _
    · rw [gI_out (by rw [List.length_map, List.length_range]; omega), gI_out (ws := f) (by rw [hf.1]; omega), gI_out (ws := r) (by rw [hr.1]; omega)]
      exact .of (by rw [Int.mul_zero]; rfl)
  · rw [if_neg h, if_neg h]
    exact .of (by omega)
theorem shares_cg (hp : 0 < p) (i : Nat) : ∀ (l : List (List Int)) (f : List Int), (∀ r ∈ l, Wd p n r) → Wd p n f → Cg p (gI (l.foldl (shareI p n m ds ks) f) i) (gI f i + (l.map fun r => (if ldg r < m then tv ds (ks.getD (ldg r) 0) else 0) * gI r i).sum)
  | [], f, _, _ => .of (by show gI f i = gI f i + 0; omega)
  | r :: l, f, hl, hf => by
    refine (shares_cg hp i l _ (fun s hs => hl s (List.mem_cons_of_mem _ hs)) (share_wd hp hf)).trans ?_
    rw [List.map_cons,
          List.sum_cons]
    exact ((share_cg hf (hl r List.mem_cons_self) i).add (.refl _)).trans (.of (by omega))
theorem held_n (hdn : ds.length = n) : ∀ k ∈ heldI ds, k < n := fun k hk => by have := (held_lt hk).1; omega
/-- what the law's own way finds -/
theorem filled_ok (hp : isP p) (hw : ∀ r ∈ rows, Wd p n r) (hdn : ds.length = n) (hD : Dg p ds) : (∀ f, filledL p n rows ds = some f → Wd p n f ∧ Ext p rows ds (gI f)) ∧ (filledL p n rows ds = none → ¬ ∃ v, Ext p rows ds v) := by
  have hp2 := hp.two
  have lt := held_n hdn
  obtain ⟨fl, fa, fm, fnd⟩ := first_len (held_nd ds) lt
  obtain ⟨rR, _, rS, _⟩ := reduced_red hp (perm_wd (p := p) (by omega) hw (held_nd ds) lt)
  have pre : ∀ j (hj : j < (heldI ds).length), (firstO n (heldI ds)).getD j 0 = (heldI ds)[j] := fun j hj => by
    unfold firstO
    rw [List.getD_eq_getElem?_getD, List.getElem?_append_left hj, List.getElem?_eq_getElem hj]
    rfl
  have idx : ∀ k ∈ heldI ds, (firstO n (heldI ds)).idxOf k = (heldI ds).idxOf k ∧ (heldI ds).idxOf k < (heldI ds).length := fun k hk => by
    unfold firstO
    rw [List.idxOf_append, if_pos hk]
    exact ⟨rfl, List.idxOf_lt_length_of_mem hk⟩
  have mn : (heldI ds).length ≤ n := by have := held_len ds; omega
  have fw : Wd p n (foundL p n rows ds) := by unfold foundL; exact fold_share_wd (by omega) _ _ (zero_wd (by omega) n)
  have fc : ∀ i, Cg p (gI (foundL p n rows ds) i) (((reducedI p (rows.map (atP (firstO n (heldI ds))))).map fun r => (if ldg r < (heldI ds).length then tv ds ((heldI ds).getD (ldg r) 0) else 0) * gI r i).sum) := fun i => by
    unfold foundL
    refine (shares_cg (by omega) i _ _ rR.wd (zero_wd (by omega) n)).trans (.of ?_)
    have : gI (List.replicate n 0) i = 0 := by unfold gI; rw [List.getD_eq_getElem?_getD, List.getElem?_replicate]; split <;> rfl
    rw [this, Int.zero_add]
  have fs : Span p (reducedI p (rows.map (atP (firstO n (heldI ds))))) (gI (foundL p n rows ds)) := (span_lsum (c := fun r => if ldg r < (heldI ds).length then tv ds ((heldI ds).getD (ldg r) 0) else 0) fun r hr => .inr hr).cg fc
  unfold filledL
  generalize foundL p n rows ds = fo at *
  generalize hR : reducedI p (rows.map (atP (firstO n (heldI ds)))) = R at *
  generalize hO : firstO n (heldI ds) = order at *
  cases q : (List.range (heldI ds).length).all fun k => decide (gI fo k = (ds.getD ((heldI ds).getD k 0) none).getD 0) with
  | true =>
    have q := List.all_eq_true.mp q
    refine ⟨fun f h => ?_, fun h => by cases h⟩
    have h := Option.some.inj h
    subst h
    refine ⟨back_wd (by omega) fl fa fw, ?_, fun k hk => ?_⟩
    · obtain ⟨w, w1, w2⟩ := ((rS _).mp fs).lift fun r _ j => at_pick r j
      refine w1.cg fun i => ?_
      rw [back_pick]
      by_cases hi : i < n
      · exact (pick_cg w2 i).trans (.of (round fl fa hi))
      · rw [pick_out (by omega)]
        exact (span_out hw w1 i (by omega)).symm
    · obtain ⟨i1, i2⟩ := idx k hk
      rw [back_pick, pick_in (by rw [fl]; exact lt k hk), i1]
      have := of_decide_eq_true (q _ (List.mem_range.mpr i2))
      rw [this, getD_at i2, List.getElem_idxOf i2]
      exact .refl _
  | false =>
    refine ⟨(fun f h => by cases h), fun _ => ?_⟩
    rintro ⟨v, v1, v2⟩
    have q2 : ¬ ((List.range (heldI ds).length).all fun k => decide (gI fo k = (ds.getD ((heldI ds).getD k 0) none).getD 0)) = true := by rw [q]; decide
    apply q2
    refine List.all_eq_true.mpr fun j hj => decide_eq_true ?_
    have hj := List.mem_range.mp hj
    have u1 : Span p R (pick order.length (fun j => order.getD j 0) v) := (rS _).mpr (v1.pick fun r _ j => at_pick r j)
    have uk : ∀ j (hj : j < (heldI ds).length), Cg p (pick order.length (fun j => order.getD j 0) v j) (tv ds (heldI ds)[j]) := fun j hj => by
      rw [pick_in (by omega), pre j hj]
      exact v2 _ (List.getElem_mem hj)
    have a := red_sum rR u1 j
    have e : Cg p ((R.map fun r => pick order.length (fun j => order.getD j 0) v (ldg r) * gI r j).sum) ((R.map fun r => (if ldg r < (heldI ds).length then tv ds ((heldI ds).getD (ldg r) 0) else 0) * gI r j).sum) := by
      have go : ∀ l : List (List Int), (∀ r ∈ l, r ∈ R) → Cg p ((l.map fun r => pick order.length (fun j => order.getD j 0) v (ldg r) * gI r j).sum) ((l.map fun r => (if ldg r < (heldI ds).length then tv ds ((heldI ds).getD (ldg r) 0) else 0) * gI r j).sum) := by
        intro l
        induction l with
        | nil => intro _; exact .refl 0
        | cons r l ih =>
          intro hl
          rw [List.map_cons, List.sum_cons, List.map_cons, List.sum_cons]
          refine Cg.add ?_ (ih fun s hs => hl s (List.mem_cons_of_mem _ hs))
          by_cases h : ldg r < (heldI ds).length
          · rw [if_pos h, getD_at h]
            exact (uk _ h).mul (.refl _)
          · rw [if_neg h, (rR.lead (hl r List.mem_cons_self)).2.2.2 j (by omega)]
            exact .of (by rw [Int.mul_zero, Int.mul_zero])
      exact go R fun r hr => hr
    have b := (fc j).trans (e.symm.trans (a.symm.trans (uk j hj)))
    rw [getD_at hj]
    exact b.eq (fw.get (by omega) (by omega)) (hD.get (by omega) _)
/-- the two ways agree -/
theorem none_none (hp : isP p) (hw : ∀ r ∈ rows, Wd p n r) (hdn : ds.length = n) (hD : Dg p ds) (h : weightsI p (rows.map (atP (heldI ds))) (toldI ds (heldI ds)) = none) : filledL p n rows ds = none ∧ ¬ Span p (rows.map (atP (heldI ds))) (gI (toldI ds (heldI ds))) := by
  have hp2 := hp.two
  have hl : (toldI ds (heldI ds)).length = (heldI ds).length := by unfold toldI; rw [List.length_map]
  have a := (weights_ok (goal := toldI ds (heldI ds)) hp (by rw [hl]; exact at_wd hp hw _) (by rw [hl]; exact told_wd hD (by omega) _)).1 h
  refine ⟨?_, a⟩
  cases q : filledL p n rows ds with
  | none => rfl
  | some f => exact absurd (ext_iff.mpr ⟨_, ((filled_ok hp hw hdn hD).1 f q).2⟩) a
theorem some_some (hp : isP p) (hw : ∀ r ∈ rows, Wd p n r) (hdn : ds.length = n) (hD : Dg p ds) {ws : List Int} (h : weightsI p (rows.map (atP (heldI ds))) (toldI ds (heldI ds)) = some ws) : ws.length = rows.length ∧ Ext p rows ds (gI (foldI p n (ws.zip rows))) ∧ filledL p n rows ds ≠ none := by
  have hp2 := hp.two
  have hl : (toldI ds (heldI ds)).length = (heldI ds).length := by unfold toldI; rw [List.length_map]
  obtain ⟨a, b⟩ := (weights_ok (goal := toldI ds (heldI ds)) hp (by rw [hl]; exact at_wd hp hw _) (by rw [hl]; exact told_wd hD (by omega) _)).2 ws h
  rw [hl, List.length_map] at b
  have wl : ws.length = rows.length := by rw [a.1, List.length_map]
  have e : Ext p rows ds (gI (foldI p n (ws.zip rows))) := by
    refine ⟨foldI_span (by omega) hw wl, fun k hk => ?_⟩
    obtain ⟨j, hj, rfl⟩ := List.getElem_of_mem hk
    have c := b j hj
    rw [told_at hj] at c
    refine ((foldI_ok (by omega) hw wl).2 _).trans (Cg.trans (.of (Su.congr fun t ht => ?_)) c.symm)
    congr 1
    have g1 : rows.getD t [] = rows[t] := by rw [List.getD_eq_getElem?_getD, List.getElem?_eq_getElem ht]; rfl
    have g2 : (rows.map (atP (heldI ds))).getD t [] = atP (heldI ds) rows[t] := by rw [List.getD_eq_getElem?_getD, List.getElem?_map, List.getElem?_eq_getElem ht]; rfl
    rw [g1, g2, at_pick, pick_in hj, getD_at hj]
  exact ⟨wl, e, fun q => (filled_ok hp hw hdn hD).2 q ⟨_, e⟩⟩
theorem held_iff (hdn : ds.length = n) (hk : k < n) : k ∈ heldI ds ↔ k ∉ lostI ds := by
  unfold heldI lostI
  rw [List.mem_filter, List.mem_filter, List.mem_range]
  cases ds.getD k none <;> simp <;> omega
/-- the only word -/
theorem only_word (hp : isP p) (h : Red p n rows) (hdn : ds.length = n) (hD : Dg p ds) {ws : List Int} (hs : weightsI p (rows.map (atP (heldI ds))) (toldI ds (heldI ds)) = some ws) (ho : wordsI p n rows (lostI ds) = []) : filledL p n rows ds = some (foldI p n (ws.zip rows)) := by
  have hp2 := hp.two
  obtain ⟨wl, e, ne⟩ := some_some hp h.wd hdn hD hs
  cases q : filledL p n rows ds with
  | none => exact absurd q ne
  | some f =>
    obtain ⟨f1, f2⟩ := (filled_ok hp h.wd hdn hD).1 f q
    congr 1
    refine Wd.ext (by omega) f1 (foldI_ok (by omega) h.wd wl).1 fun i => ?_
    have d : Span p (wordsI p n rows (lostI ds)) fun i => gI f i - gI (foldI p n (ws.zip rows)) i := (words_span hp h).mpr ⟨f2.1.sub e.1, fun k hk hn => by
      have hh := (held_iff hdn hk).mpr hn
      exact ((f2.2 k hh).sub (e.2 k hh)).trans (.of (by omega))⟩
    rw [ho] at d
    cases d with
    | zero z =>
      have z : Cg p (gI f i - gI (foldI p n (ws.zip rows)) i) 0 := z i
      exact Cg.trans (.of (by omega)) ((z.add (.refl (gI (foldI p n (ws.zip rows)) i))).trans (.of (by omega)))
    | step _ hr _ _ => cases hr
/-- another word -/
theorem lost_ok (hp : isP p) (h : Red p n rows) (ha : Asc rows) (hdn : ds.length = n) (hr : r ∈ wordsI p n rows (lostI ds)) : Wd p n r ∧ (reducedI p (rows ++ [r])).length = rows.length ∧ notZ r = true ∧ ∀ k ∈ heldI ds, gI r k = 0 := by
  have hp2 := hp.two
  obtain ⟨wR, _⟩ := words_red hp h (lostI ds)
  obtain ⟨s1, s2⟩ := (words_span hp h).mp (Span.mem (p := p) hr)
  have rw_ := wR.wd r hr
  refine ⟨rw_, ?_, ?_, fun k hk => ?_⟩
  · have hw : ∀ x ∈ rows ++ [r], Wd p n x := fun x hx => by
      rcases List.mem_append.mp hx with z | z
      · exact h.wd x z
      · rw [List.mem_singleton.mp z]; exact rw_
    obtain ⟨a, b, c, _⟩ := reduced_red hp hw
    rw [Red.uniq hp2 a h b ha (c.trans (.of (fun x hx => ?_) fun x hx => .mem (List.mem_append_left _ hx)))]
    rcases List.mem_append.mp hx with z | z
    · exact .mem z
    · rw [List.mem_singleton.mp z]; exact s1
  · cases q : notZ r with
    | true => rfl
    | false =>
      have := notZ_false q (ldg r)
      rw [(wR.lead hr).2.1] at this
      cases this
  · have hk' := held_n hdn k hk
    exact Cg.zero (s2 k hk' ((held_iff hdn hk').mp hk)) (rw_.get hk' (by omega))
/-! ### ways that part -/
theorem dget_zip (k : Nat) : ∀ (ks : List Nat) (c : List Int), c.length = ks.length → dgetD ((ks.map fun k : Nat => (k : Int)).zip c) (k : Nat) 0 = if k ∈ ks then gI c (ks.idxOf k) else 0
  | [], [], _ => rfl
  | [], _ :: _, h => by cases h
  | _ :: _, [], h => by cases h
  | a :: ks, b :: c, h => by
    have ih := dget_zip k ks c (by simpa using h)
    unfold dgetD at ih ⊢
    rw [List.map_cons, List.zip_cons_cons, List.find?_cons, List.idxOf_cons]
    by_cases e : a = k
    · subst e
      simp [gI]
    · have e1 : decide ((((a : Int), b) : Int × Int).1 = (k : Int)) = false := decide_eq_false (by show ¬ (a : Int) = (k : Int); omega)
      have e2 : (a == k) = false := by simpa using e
      rw [e1, e2]
      simp only [cond_false]
      rw [ih]
      by_cases z : k ∈ ks
      · rw [if_pos z, if_pos (List.mem_cons_of_mem _ z)]
        rfl
      · rw [if_neg z, if_neg (fun w => by
          rcases List.mem_cons.mp w with w | w
          · exact e w.symm
          · exact z w)]
theorem su_mem (g : Nat → Int) : ∀ (ks : List Nat), ks.Nodup → (∀ k ∈ ks, k < n) → Su n (fun i => if i ∈ ks then g i else 0) = Su ks.length fun j => g (ks.getD j 0)
  | [], _, _ => Su.zero fun i _ => if_neg (by simp)
  | a :: ks, nd, lt => by
    obtain ⟨n1, n2⟩ := List.pairwise_cons.mp nd
    rw [List.length_cons, Su.first]
    show _ = g a + Su ks.length fun j => g (ks.getD j 0)
    rw [← su_mem g ks n2 fun k hk => lt k (List.mem_cons_of_mem _ hk), ← Su.one (n := n) (c := g a) (lt a List.mem_cons_self), ← Su.add]
    refine Su.congr fun i _ => ?_
    by_cases e : i = a
    · subst e
      rw [if_pos List.mem_cons_self, if_pos rfl, if_neg (fun z => n1 _ z rfl)]
      omega
    · rw [if_neg e]
      by_cases z : i ∈ ks
      · rw [if_pos (List.mem_cons_of_mem _ z), if_pos z]; omega
      · rw [if_neg z, if_neg (fun w => by
          rcases List.mem_cons.mp w with w | w
          · exact e w
          · exact z w)]
        rfl
theorem idx_at (nd : ks.Nodup) (hi : i < ks.length) : ks.idxOf ks[i] = i := by
  have hm : ks.idxOf ks[i] < ks.length := List.idxOf_lt_length_of_mem (List.getElem_mem hi)
  have e := List.getElem_idxOf hm
  have h : ks[ks.idxOf ks[i]]? = ks[i]? := by rw [List.getElem?_eq_getElem hm, List.getElem?_eq_getElem hi, e]
  exact (List.getElem?_inj hm nd).mp h
theorem against_at (hc : ((barsI p rows ds).headD []).length = (heldI ds).length) (hi : i < n) : gI (againstI p n rows ds) i = if i ∈ heldI ds then gI ((barsI p rows ds).headD []) ((heldI ds).idxOf i) else 0 := by
  unfold againstI
  conv => lhs; unfold gI
  rw [List.getD_eq_getElem?_getD, List.getElem?_map, List.getElem?_range hi]
  exact dget_zip i _ _ hc
theorem against_dot (hdn : ds.length = n) (hc : ((barsI p rows ds).headD []).length = (heldI ds).length) (u : Vec) : dot n u (gI (againstI p n rows ds)) = Su (heldI ds).length fun j => u ((heldI ds).getD j 0) * gI ((barsI p rows ds).headD []) j := by
  have lt := held_n hdn
  have nd := held_nd ds
  unfold dot
  rw [Su.congr (g := fun i => if i ∈ heldI ds then u i * gI ((barsI p rows ds).headD []) ((heldI ds).idxOf i) else 0) fun i hi => ?_, su_mem (fun i => u i * gI ((barsI p rows ds).headD []) ((heldI ds).idxOf i)) _ nd lt]
  · refine Su.congr fun j hj => ?_
    rw [getD_at hj, idx_at nd hj]
  · rw [against_at hc hi]
    by_cases z : i ∈ heldI ds
    · rw [if_pos z, if_pos z]
    · rw [if_neg z, if_neg z, Int.mul_zero]
theorem zip_dot : ∀ (a b : List Int), a.length = b.length → ((a.zip b).map fun q => q.1 * q.2).sum = Su a.length fun j => gI a j * gI b j
  | [], [], _ => rfl
  | [], _ :: _, h => by cases h
  | _ :: _, [], h => by cases h
  | x :: a, y :: b, h => by
    rw [List.zip_cons_cons, List.map_cons, List.sum_cons, List.length_cons, Su.first, zip_dot a b (by simpa using h)]
    rfl
theorem torn_ok (hp : isP p) (hw : ∀ r ∈ rows, Wd p n r) (hdn : ds.length = n) (hD : Dg p ds) (h : ¬ Span p (rows.map (atP (heldI ds))) (gI (toldI ds (heldI ds)))) :
    barsI p rows ds ≠ [] ∧ Wd p n (againstI p n rows ds) ∧ (∀ k ∈ lostI ds, gI (againstI p n rows ds) k = 0) ∧ (∀ r ∈ rows, dotI p r (againstI p n rows ds) = 0) ∧ dotI p (told0 ds) (againstI p n rows ds) ≠ 0 := by
  have hp2 := hp.two
  have tl : (toldI ds (heldI ds)).length = (heldI ds).length := by unfold toldI; rw [List.length_map]
  obtain ⟨rR, _, rS, _⟩ := reduced_red hp (at_wd hp hw (heldI ds))
  have cw := (checks_red (n := (heldI ds).length) (rows := reducedI p (rows.map (atP (heldI ds)))) hp).1.wd
  have sumE : ∀ c, c.length = (heldI ds).length → sumI p c (toldI ds (heldI ds)) = (dot (heldI ds).length (gI c) (gI (toldI ds (heldI ds)))) % p := fun c hc => by
    unfold sumI dot
    rw [zip_dot _ _ (by rw [hc, tl]), hc]
  have ne : barsI p rows ds ≠ [] := fun e => by
    apply h
    refine (rS _).mp ((checks_orth hp rR fun i hi => .of (gI_out (by omega))).mp fun c hc => ?_)
    have no : c ∉ barsI p rows ds := by rw [e]; exact List.not_mem_nil
    unfold barsI at no
    have : ¬ decide (sumI p c (toldI ds (heldI ds)) ≠ 0) = true := fun z => no (List.mem_filter.mpr ⟨hc, z⟩)
    rw [decide_eq_true_eq, Classical.not_not, sumE c (cw c hc).1] at this
    exact Cg.mod_iff.mpr (by rw [this]; exact (Int.zero_emod p).symm)
  have hm : (barsI p rows ds).headD [] ∈ barsI p rows ds := by
    cases q : barsI p rows ds with
    | nil => exact absurd q ne
    | cons c l => exact List.mem_cons_self
  obtain ⟨c1, c2⟩ : (barsI p rows ds).headD [] ∈ checksI p (heldI ds).length (reducedI p (rows.map (atP (heldI ds)))) ∧ sumI p ((barsI p rows ds).headD []) (toldI ds (heldI ds)) ≠ 0 := by
    have hm2 := hm
    conv at hm2 => arg 1; unfold barsI
    obtain ⟨a, b⟩ := List.mem_filter.mp hm2
    exact ⟨a, of_decide_eq_true b⟩
  have hc := (cw _ c1).1
  have aw : (againstI p n rows ds).length = n := by unfold againstI; rw [List.length_map, List.length_range]
  refine ⟨ne, ⟨aw, fun x hx => ?_⟩, fun k hk => ?_, fun r hr => ?_, ?_⟩
  · obtain ⟨i, hi, rfl⟩ :=
          List.getElem_of_mem hx
    have e := gI_get hi
    rw [List.getElem?_eq_getElem hi] at e
    rw [Option.some.inj e, against_at hc (by omega)]
    by_cases z : i ∈ heldI ds
    · rw [if_pos z]
      exact (cw _ c1).get (List.idxOf_lt_length_of_mem z) (by omega)
    · rw [if_neg z]; omega
  · have hk' : k < n := by
      unfold lostI at hk
      have := List.mem_range.mp (List.mem_filter.mp hk).1
      omega
    rw [against_at hc hk', if_neg (fun z => (held_iff hdn hk').mp z hk)]
  · have e : dotI p r (againstI p n rows ds) = dot n (gI r) (gI (againstI p n rows ds)) % p := by
      unfold dotI dot
      rw [sum_range (fun k => gI r k * gI (againstI p n rows ds) k), (hw r hr).1]
    rw [e, against_dot hdn hc]
    have o := Orth.sp rS ((checks_span hp rR).mp (.mem c1))
    have d : Cg p (dot (heldI ds).length (gI (atP (heldI ds) r)) (gI ((barsI p rows ds).headD []))) 0 := o.2 _ (List.mem_map.mpr ⟨r, hr, rfl⟩)
    have e2 : (Su (heldI ds).length fun j => gI r ((heldI ds).getD j 0) * gI ((barsI p rows ds).headD []) j) = dot (heldI ds).length (gI (atP (heldI ds) r)) (gI ((barsI p rows ds).headD [])) := Su.congr fun j hj => by rw [at_pick, pick_in hj]
    rw [e2, Cg.mod_iff.mp d]
    exact Int.zero_emod p
  · have l0 : (told0 ds).length = n := by unfold told0; rw [List.length_map, hdn]
    have t0 : ∀ i < n, gI (told0 ds) i = tv ds i := fun i hi => by
      unfold told0 tv
      conv => lhs; unfold gI
      rw [List.getD_eq_getElem?_getD, List.getElem?_map, List.getElem?_eq_getElem (by omega), List.getD_eq_getElem?_getD, List.getElem?_eq_getElem (by omega)]
      rfl
    have e : dotI p (told0 ds) (againstI p n rows ds) = dot n (tv ds) (gI (againstI p n rows ds)) % p := by
      unfold dotI dot
      rw [sum_range (fun k => gI (told0 ds) k * gI (againstI p n rows ds) k), l0]
      congr 1
      exact Su.congr fun i hi => by rw [t0 i hi]
    rw [e, against_dot hdn hc]
    rw [sumE _ hc] at c2
    have e2 : (Su (heldI ds).length fun j => tv ds ((heldI ds).getD j 0) * gI ((barsI p rows ds).headD []) j) = dot (heldI ds).length (gI ((barsI p rows ds).headD [])) (gI (toldI ds (heldI ds))) := Su.congr fun j hj => by rw [told_at hj, getD_at hj, Int.mul_comm]
    rw [e2]
    exact c2
/-! ### lost in a row -/
theorem lost_ring (hn : 0 < n) (hdn : ds.length = n) {s l : Nat} (h : ∀ k < n, k ∈ lostI ds ↔ k ∈ ringI n s l) : (begunI ds).length < 2 := by
  have : (begunI ds).length ≤ [s % n].length := nd_sub _ _ (List.Pairwise.filter _ (List.Pairwise.filter _ List.nodup_range)) fun k hk => by
    obtain ⟨k1, k2⟩ := List.mem_filter.mp hk
    have hkn : k < n := by
      unfold lostI at k1
      have := List.mem_range.mp (List.mem_filter.mp k1).1
      omega
    obtain ⟨j, hj, e⟩ := mem_ring.mp ((h k hkn).mp k1)
    cases j with
    | zero => rw [← e]; exact List.mem_singleton.mpr rfl
    | succ j =>
      have hm : (s + j) % n ∈ ringI n s l := mem_ring.mpr ⟨j, by omega, rfl⟩
      have hl := (h _ (Nat.mod_lt _ hn)).mpr hm
      have lt := Nat.mod_lt (s + j) hn
      have pe : (if k = 0 then ds.length - 1 else k - 1) = (s + j) % n := by
        have e3 : k = ((s + j) % n + 1) % n := by rw [Nat.mod_add_mod, ← e]; rfl
        by_cases z : (s + j) % n + 1 = n
        · rw [z, Nat.mod_self] at e3
          rw [if_pos e3, hdn]
          omega
        · rw [Nat.mod_eq_of_lt (by omega)] at e3
          rw [if_neg (by omega)]
          omega
      rw [pe] at k2
      unfold lostI at hl
      have hl2 := (List.mem_filter.mp hl).2
      cases q : ds.getD ((s + j) % n) none with
      | none => rw [q] at k2; cases k2
      | some x => rw [q] at hl2; cases hl2
  rw [List.length_singleton] at this
  omega
theorem words_same {a b : List Nat} (h : ∀ k < n, k ∈ a ↔ k ∈ b) : wordsI p n rows a = wordsI p n rows b := by
  have : keptI n a = keptI n b := by
    unfold keptI
    refine List.filter_congr fun k hk => ?_
    have := h k (List.mem_range.mp hk)
    by_cases z : k ∈ a
    · have z2 := this.mp z
      simp [z, z2]
    · have z2 : k ∉ b := fun w => z (this.mpr w)
      simp [z, z2]
  unfold wordsI
  rw [this]
end
end Sh


set_option Elab.async false
set_option linter.all false
set_option maxRecDepth 100000
set_option maxHeartbeats 40000000
set_option autoImplicit false
/-! W23: _law_is_filled_right -/
namespace Sh
open PySem PySem.Spec
      PyProof.Rows L2
open LamX (TabB)
section
variable {S : SC} {ds : List Slot} {e : Expr} {pos p' p : Pos} {i : Nat} {t : Str} {rest : List Stmt} {D : DEnds}
/-- x = [a draw], still to be written -/
theorem js_asgN1F (he : JF S ds e fun d => JS S true rest (ds.set i (.own [d])) D) (hN : S.N[i]? = some t := by rfl) (hx : Loc S.scope t := by first | exact Or.inl rfl | exact Or.inr rfl) (hf : S.fn t = true ∨ S.scope.names.lookup t = some .local := by first | exact Or.inl rfl | exact Or.inr rfl)
    (hs : ∀ env : Env, env.scope = S.scope → swapsWith (.List [e] p) (some (.Name t p')) pos.line env = pure false := by intro _ _; rfl) (h1 : ∀ env, starEach [e] env = (false, eval e env) :: starEach [] env := by intro _; rfl) : JS S true (.Assign [.Name t p'] (.List [e] p) pos :: rest) ds D := by
  intro Oe Fz O H σ s E hE
  refine ts_cons (fun X h => ps_set (h.N ▸ h.nd) (h.N ▸ hN) (h.scope ▸ hx) (pe_lst (pa_cons (pe_teOf h) pa_nil (h1 _))) (hs _ h.scope) (by rw [h.fn, h.scope]; exact hf)) ?_
  obtain ⟨fE, fd, _⟩ := s.fd rfl
  refine he O σ H s.st (upIn s.sub fE) fd _ fun v d H1 e1 f1 r1 hk => ⟨le_line (by show 1 ≤ 1000000; decide), fun q hq => ?_⟩
  exact hk Oe Fz _ _ _ ((s.monoF e1 f1).newOwn hq (Same.upd_new hq) upd_same (.cons (r1.mono ((hide_cons hq).trans (hide_same (Same.upd_new hq)))) .nil)) E hE
end
/-- a book of the law's own -/
structure Bk (p : Int) (n : Nat) (rows : List (List Int)) : Prop where
  pr : isP p
  n1 : 1 ≤ n
  n2 : n ≤ 10
  red : Red p n rows
  asc : Asc rows
theorem Bk.len {p : Int} {n : Nat} {rows : List (List Int)} (B : Bk p n rows) : rows.length ≤ n := red_len B.red
theorem Bk.sm {p : Int} {n : Nat} {rows : List (List Int)} (B : Bk p n rows) (rows2 : List (List Int)) (h : Red p n rows2) (k : Nat) : smD (k + 3) (bookD p (n : Nat) rows2) = true := by
  have hp2 := B.pr.two
  have hp3 := B.pr.le
  have n2 := B.n2
  have l2 := red_len h
  have e1 : ∀ j, smD j (.int p) = true := fun j => by
    have : decide (p.natAbs < 1000000) = true := decide_eq_true (by omega)
    cases j <;> exact this
  have e2 : ∀ j, smD j (.int (n : Nat)) = true := fun j => by
    have : decide ((n : Int).natAbs < 1000000) = true := decide_eq_true (by omega)
    cases j <;> exact this
  show (true && ([.int p, .int (n : Nat), tTI rows2] : List PyData).all (smD (k + 2))) = true
  rw [List.all_cons, List.all_cons, List.all_cons, e1, e2]
  show (true && (true && (true && ((decide ((rows2.map (tupE PyData.int)).length ≤ 12) && (rows2.map (tupE PyData.int)).all (smD (k + 1))) && true)))) = true
  rw [List.length_map, decide_eq_true (show rows2.length ≤ 12 by omega), List.all_map]
  have : rows2.all (smD (k + 1) ∘ tupE PyData.int) = true := List.all_eq_true.mpr fun r hr => sm_tI (by rw [(h.wd r hr).1]; omega) fun x hx => by have := (h.wd r hr).2 x hx; omega
  rw [this]
  rfl
section
variable {P : Program} {w : World} {K : PySem.W.Frag} {mg : Str → Option Value} {base : Heap} {c Pt CR CI CP CS CN CL CB CT : Addr}
/-- told digits of a book, lost ones in a row -/
structure Dgt (p : Int) (n s l : Nat) (ds : List (Option Int)) : Prop where
  len : ds.length = n
  dg : Dg p ds
  ring : ∀ k < n, k ∈ lostI ds ↔ k ∈ ringI n s l
def R_L_isf (args : List PyData) (Pd : PyData → Prop) : Prop := ∃ (p : Int) (n s l : Nat) (rows : List (List Int)) (ds : List (Option Int)), args = [bookD p (n : Nat) rows, dgl ds, .int ((openW p n rows (ringI n s l)).length : Nat)] ∧ Bk p n rows ∧ Dgt p n s l ds ∧ Pd (.bool true)
/-- what may be heard -/
def Hrd (p : Int) (n : Nat) (rows : List (List Int)) (ds : List (Option Int)) (x : PyData) : Prop :=
  (weightsI p (rows.map (atP (heldI ds))) (toldI ds (heldI ds)) = none ∧ x = .tuple [.str "torn", tI (againstI p n rows ds)]) ∨
  ∃ ws, weightsI p (rows.map (atP (heldI ds))) (toldI ds (heldI ds)) = some ws ∧ ((∃ r l, wordsI p n rows (lostI ds) = r :: l ∧ x = .tuple [.str "lost", tI r]) ∨ (wordsI p n rows (lostI ds) = [] ∧ x = .tuple [.str "told", tI (foldI p n (ws.zip rows))]))
def PvH (p : Int) (n : Nat) (rows : List (List Int)) (ds : List (Option Int)) (x : PyData) : Prop := ∃ ws, weightsI p (rows.map (atP (heldI ds))) (toldI ds (heldI ds)) = some ws ∧ wordsI p n rows (lostI ds) = [] ∧ x = tI (foldI p n (ws.zip rows))
def PxH (CL CT : Addr) (p : Int) (n : Nat) (rows : List (List Int)) (ds : List (Option Int)) (cc : Value) (f : Str) (x : PyData) : Prop :=
  (cc = .ref CL ∧ f = "within" ∧ ∃ ws, weightsI p (rows.map (atP (heldI ds))) (toldI ds (heldI ds)) = some ws ∧ ∃ r l, wordsI p n rows (lostI ds) = r :: l ∧ x = tI r) ∨
  (cc = .ref CT ∧ f = "ways" ∧ weightsI p (rows.map (atP (heldI ds))) (toldI ds (heldI ds)) = none ∧ x = tI (againstI p n rows ds))
theorem hearsP {p : Int} {n s l : Nat} {rows : List (List Int)} {ds : List (Option Int)} (B : Bk p n rows) (G : Dgt p n s l ds) : R_filled CL CT [bookD p (n : Nat) rows, dgs ds] (PvH p n rows ds) (PxH CL CT p n rows ds) := by
  have n1 := B.n1
  have n2 := B.n2
  refine ⟨p, n, rows, ds, rfl, B.pr, n1, by omega, G.len, B.red, G.dg, lost_ring (by omega) G.len G.ring, fun h => ⟨?_, .inr ⟨rfl, rfl, h, rfl⟩⟩, fun ws h => ⟨fun r l e => .inl ⟨rfl, rfl, ws, h, r, l, e, rfl⟩, fun e => ⟨ws, h, e, rfl⟩⟩⟩
  exact (torn_ok B.pr B.red.wd G.len G.dg (none_none B.pr B.red.wd G.len G.dg h).2).1
theorem ok_L_isf (L : Lib K mg fns bls) (EL : ExcC P K mg "Lost" "within" s_Lost_init CL) (ET : ExcC P K mg "Torn" "ways" s_Torn_init CT) (A : HK K mg CR CI CP CS CN CL CB CT)
    {f : Addr} {fd : FuncData} (F : FnP K "_law_is_filled_right" s_L_is_filled_right f fd) (hm : mg "_law_is_filled_right" = some (.ref f)) (hc : fd.code = .ref c) (TB : TabB base mg c Pt) :
    CalG P w K mg base "_law_is_filled_right" 9 (spF0 [(Pt, "_law_is_filled_right.<locals>." ++ "<lambda>")] R_L_isf) := by
  refine calG_of F (fn_feed0G (N := ["_law_book_now", "_law_digits_now", "_law_open_now", "_law_due", "_law_heard_here", "_law_told"]) (ps := ["_law_book_now", "_law_digits_now", "_law_open_now"]) (k := 8) F ⟨rfl, rfl, rfl, by decide +kernel, rfl, by decide +kernel, by decide +kernel⟩ ?_ ?_) hm (bind3 fun _ _ _ _ _ _ _ _ _ => rfl)
  · rintro args d ⟨_, _, _, _, _, _, rfl, _⟩; rfl
  rintro args Pd ⟨p, n, s, l, rows, ds, rfl, B, G, hP⟩ fa hT
  have hp2 := B.pr.two
  have hp3 := B.pr.le
  have n1 := B.n1
  have n2 := B.n2
  have hrl := B.len
  have hw := B.red.wd
  have hdn := G.len
  have sameW : wordsI p n rows (lostI ds) = openW p n rows (ringI n s l) := (words_same G.ring).trans (open_eq B.pr B.red _)
  obtain ⟨ff, ffd, FF, Fm, Fok⟩ := at_filled (P := P) (w := w) (base := base) L EL ET
  have CX1 : CalX P w K mg base "filled" 6 (spX (R_filled CL CT)) := ⟨ff, ffd, ["book", "digits"], Fok, Fm, FF.kp, FF.bindsN (bind2 fun _ _ _ _ _ _ _ _ => rfl)⟩
  have CK1 : CalK P w K mg base "filled" 6 (L2.CX P w) (spX (R_filled CL CT)) ["digits", "book"] rr2 := calK2 FF Fok Fm fun _ _ _ _ _ _ _ _ => rfl
  obtain ⟨hg, hfd, HF, Hm⟩ := L.fn 51 _ _ rfl
  have hR := hearsP (CL := CL) (CT := CT) B G
  have hPx : ∀ cc f d, PxH CL CT p n rows ds cc f d → (cc = .ref CL ∧ f = "within" ∧ Hrd p n rows ds (.tuple [.str "lost", d])) ∨ (cc = .ref CT ∧ f = "ways" ∧ Hrd p n rows ds (.tuple [.str "torn", d])) := by
    rintro cc f d (⟨rfl, rfl, ws, h, r, l, e, rfl⟩ | ⟨rfl, rfl, h, rfl⟩)
    · exact .inl ⟨rfl, rfl, .inr ⟨ws, h, .inl ⟨r, l, e, rfl⟩⟩⟩
    · exact .inr ⟨rfl, rfl, .inl ⟨h, rfl⟩⟩
  have hPv : ∀ d, PvH p n rows ds d → Hrd p n rows ds (.tuple [.str "told", d]) := by
    rintro d ⟨ws, h, e, rfl⟩
    exact .inr ⟨ws, h, .inr ⟨e, rfl⟩⟩
  refine js_asgE (i := 3) (je_call (ok_L_filled L) (by show 4 ≤ 8; decide) (ja_cons (je_var (n := 0) rfl) (ja_cons (je_var (n := 1) rfl) ja_nil)) ⟨p, n, rows, ds, rfl, rfl, B.pr, by omega, by omega, hw, hdn, G.dg⟩) rfl ?_
  refine js_asgN1F (i := 4) (JF.mono (jf_heard (P := Hrd p n rows ds) (k := 6) (c := c) (Pt := Pt) (by show some (fd.code, _) = _; rw [hc]; rfl) hT TB A ⟨hg, hfd, HF, Hm⟩ (by show 8 ≤ 8; decide) (LamX.lamS_by (by show LamX.lamSB (defScope s_L_is_filled_right) _ = true; decide +kernel)) (jx_call CX1 (by decide) (fun E => ja_cons (je_var (n := 0) rfl) (ja_cons (je_tupleL (je_var (n := 1) rfl) (L.bl _ (by decide))) ja_nil)) hR) hPx hPv) fun d1 g1 => ?_)
  refine js_appendF (i := 4) rfl (JF.mono (jf_heard (P := Hrd p n rows ds) (k := 6) (c := c) (Pt := Pt) (by show some (fd.code, _) = _; rw [hc]; rfl) hT TB A ⟨hg, hfd, HF, Hm⟩ (by show 8 ≤ 8; decide) (LamX.lamS_by (by show LamX.lamSB (defScope s_L_is_filled_right) _ = true; decide +kernel)) (jx_kw CK1 (fun r => r.reverse) (by decide) (fun E => jk_cons (je_tupleL (je_var (n := 1) rfl) (L.bl _ (by decide))) (jk_cons (je_var (n := 0) rfl) jk_nil)) rfl hR) hPx hPv) fun d2 g2 => ?_) (by show 1 ≤ 1000000; decide)
  refine js_freeze (i := 4) rfl ?_
  refine js_forM (P := fun _ ds' => ∃ a, ds' = [.val (bookD p (n : Nat) rows), .val (dgl ds), .val (.int ((openW p n rows (ringI n s l)).length : Nat)), .val (optD (filledL p n rows ds)), .val (.list [d1, d2]), a]) (jw_list (j := 5) (enc := fun d : PyData => d) (items := [d1, d2]) (je_var (n := 4) rfl)) (pg_nameS (j := 5)) ⟨_, rfl⟩ (fun i a ds' hi hP' => ?_) fun ds' hP' => ?_
  · obtain ⟨b1, rfl⟩ := hP'
    have ga : Hrd p n rows ds a := by
      rcases List.mem_cons.mp (List.mem_of_getElem? hi) with q | q
      · rw [q]; exact g1
      · rw [List.mem_singleton.mp q]; exact g2
    rcases ga with ⟨h, rfl⟩ | ⟨ws, h, ⟨r, t, e, rfl⟩ | ⟨e, rfl⟩⟩
    · obtain ⟨h1, h2⟩ := none_none B.pr hw hdn G.dg h
      obtain ⟨_, t1, t2, t3, t4⟩ := torn_ok B.pr hw hdn G.dg h2
      rw [h1]
      refine js_iff (k := true) (jt_is (jt_isN (x := .none) (je_var (n := 3) rfl)) rfl) (fun _ => ?_) fun hc => by cases hc
      exact js_ifNo (jt_or2 (k := false) (l := false) (jt_is (jt_neS (je_ixT (je_var (n := 5) rfl) je_int rfl) je_str) rfl) fun _ => (jt_not (jt_val (k := true) (je_callG (ok_L_is_torn_right L) rfl (by show 2 ≤ 8; decide) (ja_cons (je_var (n := 0) rfl) (ja_cons (je_var (n := 1) rfl) (ja_cons (je_ixT (je_var (n := 5) rfl) je_int rfl) ja_nil))) ⟨p, n, rows, ds, _, rfl, rfl, B.pr, by omega, by omega, hw, t1, hdn, G.dg, t2, t3, t4⟩)))) rfl (js_nil (js_nil ⟨_, rfl⟩))
    · obtain ⟨l1, l2, l3, l4⟩ := lost_ok (r := r) B.pr B.red B.asc hdn (by rw [e]; exact List.mem_cons_self)
      obtain ⟨_, _, ne⟩ := some_some B.pr hw hdn G.dg h
      obtain ⟨ff, hff⟩ : ∃ ff, filledL p n rows ds = some ff := by
        cases q : filledL p n rows ds with
        | none => exact absurd q ne
        | some ff => exact ⟨ff, rfl⟩
      rw [hff]
      refine js_iff (k := false) (jt_is (jt_isN (x := tI ff) (je_var (n := 3) rfl)) rfl) (fun hc => by cases hc) fun _ => ?_
      have opos : (0 : Int) < ((openW p n rows (ringI n s l)).length : Nat) := by rw [← sameW, e, List.length_cons]; omega
      refine js_iff (k := true) (jt_is (jt_gt (je_var (n := 2) rfl) je_int) (decide_eq_true opos)) (fun _ => ?_) fun hc => by cases hc
      exact js_ifNo (jt_or2 (k := false) (l := false) (jt_is (jt_neS (je_ixT (je_var (n := 5) rfl) je_int rfl) je_str) rfl) fun _ => (jt_not (jt_val (k := true) (je_callG (ok_L_is_lost_right L) rfl (by show 4 ≤ 8; decide) (ja_cons (je_var (n := 0) rfl) (ja_cons (je_var (n := 1) rfl) (ja_cons (je_ixT (je_var (n := 5) rfl) je_int rfl) ja_nil))) ⟨p, n, rows, ds, r, rfl, rfl, B.pr, by omega, by omega, hw, l1, l2, hdn, l3, l4⟩)))) rfl (js_nil (js_nil (js_nil ⟨_, rfl⟩)))
    · have hff := only_word B.pr B.red hdn G.dg h e
      have wl := (some_some B.pr hw hdn G.dg h).1
      have fw := (foldI_ok (ws := ws) (by omega) hw wl).1
      rw [hff]
      refine js_iff (k := false) (jt_is (jt_isN (x := tI (foldI p n (ws.zip rows))) (je_var (n := 3) rfl)) rfl) (fun hc => by cases hc) fun _ => ?_
      have o0 : ¬ (0 : Int) < ((openW p n rows (ringI n s l)).length : Nat) := by rw [← sameW, e]; decide
      refine js_iff (k := false) (jt_is (jt_gt (je_var (n := 2) rfl) je_int) (decide_eq_false o0)) (fun hc => by cases hc) fun _ => ?_
      have sm : smD 4 (.tuple [.str "told", tI (foldI p n (ws.zip rows))]) = true := by
        have st : smD 3 (.str "told") = true := by decide +kernel
        show (true && ([.str "told", tI (foldI p n (ws.zip rows))] : List PyData).all (smD 3)) = true
        rw [List.all_cons, List.all_cons, st, sm_tI (by rw [fw.1]; omega) fun x hx => by have := fw.2 x hx; omega]
        rfl
      exact js_ifNo (jt_not (jt_val (k := true) (je_callG (ok_L_same L) rfl (by show 1 ≤ 8; decide) (ja_cons (je_var (n := 5) rfl) (ja_cons (je_tup (ja_cons je_str (ja_cons (je_var (n := 3) rfl) ja_nil)) (by show 2 ≤ 1000000; decide)) ja_nil)) ⟨_, rfl, rfl, sm⟩))) rfl (js_nil (js_nil (js_nil ⟨_, rfl⟩)))
  · obtain ⟨b1, rfl⟩ := hP'
    exact js_retF (jf_of je_bl hP)
end
end Sh


set_option Elab.async false
set_option linter.all false
set_option maxRecDepth 100000
set_option maxHeartbeats 40000000
set_option autoImplicit false
/-! J18: a written list lent to a draw; tests that draw -/
namespace Sh
open PySem PySem.Spec
      PyProof.Rows L2
section
variable {S : SC} {ds : List Slot} {a e : Expr} {xs : List PyData} {pos : Pos} {P : PyData → Prop} {PB : Bool → Prop}
theorem jf_borrow (i : Nat) (hi : ds[i]? = some (.own xs)) (h : JF S (ds.set i (.val (.list xs))) e P) (hs : ∀ d, P d → scalD d = true) : JF S ds e P := by
  intro O σ H st hf f Q kq
  obtain ⟨l, us, e1, lO, h3, r3⟩ := st.ownAt hi
  obtain ⟨O', q, sub, rest⟩ : ∃ O', StOk S.fa O' H σ (ds.set i (.val (.list xs))) ∧ (∀ a ∈ O', a ∈ O) ∧ ∀ a ∈ O, a ≠ l → a ∈ O' := by
    refine ⟨O.filter (fun a => decide (a ≠ l)), ?_, fun a ha => (List.mem_filter.mp ha).1, fun a ha hn => List.mem_filter.mpr ⟨ha, decide_eq_true hn⟩⟩
    have hib : i < ds.length := (List.getElem?_eq_some_iff.mp hi).1
    have sub' : ∀ a ∈ O.filter (fun a => decide (a ≠ l)), a ∈ O := fun a ha => (List.mem_filter.mp ha).1
    have em : Same (hide O H) (hide (O.filter (fun a => decide (a ≠ l))) H) := hide_mono sub'
    have no : ∀ {j : Nat} {zs : List PyData}, (ds.set i (.val (.list xs)))[j]? = some (Slot.own zs) → i ≠ j ∧ ds[j]? = some (.own zs) := fun {j zs} q => by
      by_cases hj : i = j
      · subst hj
        rw [List.getElem?_set_self hib] at q
        cases q
      · rw [List.getElem?_set_ne hj] at q
        exact ⟨hj, q⟩
    refine ⟨by rw [List.length_set, st.len], fun j sl q => ?_, fun j k as bs l' q1 q2 hjk => st.ap j k as bs l' (no q1).2 (no q2).2 hjk, fun a ha => st.dom a (sub' a ha)⟩
    by_cases hj : i = j
    · subst hj
      rw [List.getElem?_set_self hib] at q
      cases q
      exact ⟨_, e1, _, rfl, .lst (by rw [hide_out (by simp)]; exact h3) (r3.mono em)⟩
    · rw [List.getElem?_set_ne hj] at q
      obtain ⟨x, f1, f2⟩ := st.sl j sl q
      refine ⟨x, f1, ?_⟩
      cases sl with
      | unk => trivial
      | val d => obtain ⟨v, h1, h2⟩ := f2; exact ⟨v, h1, h2.mono em⟩
      | own zs =>
        obtain ⟨l', us', h1, h2, h3, h4⟩ := f2
        subst h1
        have ne : l' ≠ l := fun z => st.ap i j xs zs l hi q hj e1 (z ▸ f1)
        exact ⟨l', us', rfl, List.mem_filter.mpr ⟨h2, by simpa using ne⟩, h3, h4.mono em⟩
      | fd => exact f2
      | dct kvs => obtain ⟨q, q1, q2⟩ := f2; exact ⟨q, q1, em _ _ q2⟩
      | dkv kvs => obtain ⟨q, ws, q1, q2, q3, q4⟩ := f2; exact ⟨q, ws, q1, em _ _ q2, q3, q4.mono em⟩
  have hf' : S.fa.In O' := fun a ha => rest a (hf a ha) fun z => f.notL h3 (z ▸ ha)
  refine h O' σ H q hf' (f.sub sub) Q fun v d H' e' f' r' hp => kq v d H' e' ?_ (r'.scal (hs d hp)) hp
  obtain ⟨⟨c, cells, n, l', t, h1, h2, h3', h4, h5, h6⟩, h7⟩ := f'
  obtain ⟨⟨c0, _, _, _, _, _, _, _, g4, _, g6⟩, _⟩ := f
  refine ⟨⟨c, cells, n, l', t, h1, h2, h3', ?_, h5, h6⟩, h7⟩
  have cO : c ∉ O := by
    rw [h6, ← g6]
    exact (hide_some g4).1
  rw [hide_out cO]
  exact (hide_some h4).2
theorem jtf_val (h : JF S ds e fun d => ∃ k, d = .bool k ∧ PB k) (he : ∀ env whole, isTrue e env whole = (do let v ← whole; standAt e.pos; holding [v] (truthy v)) := by intro _ _; rfl) : JTF S ds e PB := by
  intro O σ H st hf f Q kk
  refine tt_mk (fun X h => pt_val (pe_teOf h) (he _)) ?_
  refine h O σ H st hf f _ fun v d H1 e1 f1 r1 hz => ?_
  obtain ⟨k, rfl, hp⟩ := hz
  cases r1
  exact ⟨k, rfl, kk k H1 e1 f1 hp⟩
theorem jtf_not (h : JTF S ds a fun k => PB (!k)) : JTF S ds (.UnaryOp .Not a pos) PB := fun O σ H st hf f Q kk => tt_mk (fun X h => pt_not (pt_ttOf h)) (h O σ H st hf f _ fun k H1 e1 f1 hp => kk (!k) H1 e1 f1 hp)
/-- if not f(..): .., where f tells True -/
theorem js_ifNotT {m : Bool} {B1 rest : List Stmt} {D : DEnds} {p : Pos} (h : JF S ds a fun d => d = .bool true) (k : JS S true rest ds D) (he : ∀ env whole, isTrue a env whole = (do let v ← whole; standAt a.pos; holding [v] (truthy v)) := by intro _ _; rfl) : JS S true (.If (.UnaryOp .Not a pos) B1 [] p :: rest) ds D :=
  js_ifF (M := fun ds' => JS S true rest ds' D) (jtf_not (jtf_val (h.mono fun d hd => ⟨true, hd, ⟨(fun z => by cases z), fun _ => js_nil k⟩⟩) he)) fun _ h => h
end
end Sh


set_option Elab.async false
set_option linter.all false
set_option maxRecDepth 100000
set_option maxHeartbeats 40000000
set_option autoImplicit false
/-! W24: _law_is_right -/
namespace Sh
open PySem PySem.Spec
      PyProof.Rows L2
section
variable {P : Program} {w : World} {K :
      PySem.W.Frag} {mg : Str → Option Value} {base : Heap}
theorem ok_open_words (L : Lib K mg fns bls) : Cal P w K mg base "open_words" 6 (spP R_open_words) := (at_open_words L).cal (bind2 fun _ _ _ _ _ _ _ _ => rfl)
theorem ok_holds_any (L : Lib K mg fns bls) : Cal P w K mg base "holds_any" 7 (spP R_holds_any) := (at_holds_any L).cal (bind2 fun _ _ _ _ _ _ _ _ => rfl)
theorem ck_open_words (L : Lib K mg fns bls) : CalK P w K mg base "open_words" 6 CX0 (spP R_open_words) ["stretch", "book"] rr2 := by
  obtain ⟨f, fd, F, hm, ok⟩ := at_open_words (P := P) (w := w) (base := base) L
  exact calK2 F ok hm fun _ _ _ _ _ _ _ _ => rfl
theorem ck_holds_any (L : Lib K mg fns bls) : CalK P w K mg base "holds_any" 7 CX0 (spP R_holds_any) ["stretch", "book"] rr2 := by
  obtain ⟨f, fd, F, hm, ok⟩ := at_holds_any (P := P) (w := w) (base := base) L
  exact calK2 F ok hm fun _ _ _ _ _ _ _ _ => rfl
theorem mem_lost {ds : List (Option Int)} {k : Nat} : k ∈ lostI ds ↔ k < ds.length ∧ ds.getD k none = none := by
  unfold lostI
  rw [List.mem_filter, List.mem_range, Option.isNone_iff_eq_none]
theorem Dgt.set {p : Int} {n s l j : Nat} {ds : List (Option Int)} {o : Option Int} (G : Dgt p n s l ds) (hj : j < n) (h1 : j ∈ ringI n s l ↔ o = none) (h2 : ∀ i, o = some i → 0 ≤ i ∧ i < p) : Dgt p n s l (ds.set j o) := by
  refine ⟨by rw [List.length_set, G.len], fun x hx i e => ?_, fun k hk => ?_⟩
  · rcases List.mem_or_eq_of_mem_set hx with q | q
    · exact G.dg x q i e
    · exact h2 i (q ▸ e)
  · rw [mem_lost, List.length_set, List.getD_eq_getElem?_getD]
    by_cases e : j = k
    · subst e
      rw [List.getElem?_set_self (by rw [G.len]; exact hj), h1]
      exact ⟨fun h => h.2, fun h => ⟨by rw [G.len]; exact hj, h⟩⟩
    · rw [List.getElem?_set_ne e, ← List.getD_eq_getElem?_getD, ← mem_lost]
      exact G.ring k hk
theorem js_at {S : SC} {m : Bool} {sts : List Stmt} {ds ds' : List Slot} {D : DEnds} (e : ds = ds') (h : JS S m sts ds' D) : JS S m sts ds D := e ▸ h
def ds24 (p : Int) (n s l : Nat) (rows : List (List Int)) (ds : List (Option Int)) (a b c d e : Slot) : List Slot := [.fd, .val (bookD p (n : Nat) rows), .val (lN (ringI n s l)), .val (bookD p (n : Nat) (openW p n rows (ringI n s l))), a, b, c, .own (ds.map digD), d, .val (.int p), .val (.int (n : Nat)), .val (tTI rows), .val (.int (s : Nat)), .val (.int (l : Nat)), e, .unk]
def R_L_isr (args : List PyData) (Pd : PyData → Prop) : Prop := ∃ (p : Int) (n : Nat) (rows : List (List Int)), args = [bookD p (n : Nat) rows] ∧ Bk p n rows ∧ Pd (.bool true)
theorem ok_L_isr {T : List (Addr × Str)} (L : Lib K mg fns bls) (C : CalG P w K mg base "_law_is_filled_right" 9 (spF0 T R_L_isf)) : CalG P w K mg base "_law_is_right" 10 (spFT T R_L_isr) := by
  obtain ⟨f, fd, F, hm⟩ := L.fn 76 _ _ rfl
  refine calG_of F (fn_feedGT (N := ["_law_feed_here", "_law_book_now", "_law_lost_now", "_law_open_now", "_law_told", "_law_any_now", "_law_word_now", "_law_digits_now", "_law_lap", "_law_base", "_law_many", "_law_rows", "_law_start", "_law_length", "_law_spot", "_law_k"]) (ps := ["_law_feed_here", "_law_book_now"]) (k := 9) F ⟨rfl, rfl, rfl, by decide +kernel, rfl, by decide +kernel, by decide +kernel⟩ ?_ ?_) hm (bind2 fun _ _ _ _ _ _ _ _ => rfl)
  · rintro args d ⟨_, _, _, rfl, _⟩; rfl
  rintro args Pd ⟨p, n, rows, rfl, B, hP⟩ fa hT
  have hp2 := B.pr.two
  have hp3 := B.pr.le
  have n1 := B.n1
  have n2 := B.n2
  have hrl := B.len
  have hw := B.red.wd
  refine js_unpack (js := [9, 10, 11]) (je_var (n := 1) rfl) (.one (.one (.one .nil))) rfl ?_
  refine js_parF (i := 12) (j := 13) (jf_call (ok_L_draw L) (by show 1 ≤ 9; decide) (i := 0) rfl (ja_cons (je_var (n := 10) rfl) ja_nil) ⟨_, rfl, by omega, by omega, fun s s0 s1 => ?_⟩)
  refine jf_call (ok_L_draw L) (by show 1 ≤ 9; decide) (i := 0) rfl (ja_cons (je_add (je_var (n := 10) rfl) je_int) ja_nil) ⟨_, rfl, by omega, by omega, fun l l0 l1 => ?_⟩
  obtain ⟨s, rfl⟩ : ∃ s' : Nat, s = s' := ⟨s.toNat, by omega⟩
  obtain ⟨l, rfl⟩ : ∃ l' : Nat, l = l' := ⟨l.toNat, by omega⟩
  have rlt : ∀ k ∈ ringI n s l, k < n := fun k hk => ring_lt (by omega) hk
  refine js_asgE (i := 2) (je_call (ok_L_places L) (by show 1 ≤ 9; decide) (ja_cons (je_var (n := 10) rfl) (ja_cons (je_var (n := 12) rfl) (ja_cons (je_var (n := 13) rfl) ja_nil))) ⟨n, s, l, rfl, rfl, by omega, by omega⟩) rfl ?_
  refine js_asgE (i := 3) (je_call (ok_L_open L) (by show 4 ≤ 9; decide) (ja_cons (je_var (n := 1) rfl) (ja_cons (je_var (n := 2) rfl) ja_nil)) ⟨p, n, rows, ringI n s l, rfl, rfl, B.pr, by omega, by omega, hw⟩) rfl ?_
  refine js_at (ds' := [.fd, .val (bookD p (n : Nat) rows), .val (lN (ringI n s l)), .val (bookD p (n : Nat) (openW p n rows (ringI n s l))), .unk, .unk, .unk, .unk, .unk, .val (.int p), .val (.int (n : Nat)), .val (tTI rows), .val (.int (s : Nat)), .val (.int (l : Nat)), .unk, .unk]) rfl ?_
  have oe := open_eq B.pr B.red (ringI n s l)
  have oR : Red p n (openW p n rows (ringI n s l)) := oe ▸ (words_red B.pr B.red (ringI n s l)).1
  have ow : R_open_words [bookD p (n : Nat) rows, .tuple [.int (s : Nat), .int (l : Nat)]] (bookD p (n : Nat) (openW p n rows (ringI n s l))) := ⟨p, n, s, l, rows, rfl, by rw [oe], B.pr, by omega, B.red, by omega, by omega⟩
  have tup : ∀ {S : SC} {ds : List Slot} {e1 e2 : Expr} {kk : Nat} {pos : Pos} {x y : Int}, JE S ds e1 (.int x) → JE S ds e2 (.int y) → (∀ env, starEach [e1, e2] env = (false, eval e1 env) :: starEach [e2] env) → (∀ env, starEach [e2] env = (false, eval e2 env) :: starEach [] env) → JE S ds (.Tuple [e1, e2] kk pos) (.tuple [.int x, .int y]) := fun h1 h2 h3 h4 => je_tup (ja_cons h1 (ja_cons h2 ja_nil h4) h3) (by show 2 ≤ 1000000; decide)
  refine js_asgE (i := 4) (je_lst (ja_cons (je_call (ok_open_words L) (by show 6 ≤ 9; decide) (ja_cons (je_var (n := 1) rfl) (ja_cons (tup (je_var (n := 12) rfl) (je_var (n := 13) rfl) (by intro _; rfl) (by intro _; rfl)) ja_nil)) ow) (ja_cons (je_kw (ck_open_words L) rpRev (by show 6 ≤ 9; decide) (jk_cons (tup (je_var (n := 12) rfl) (je_var (n := 13) rfl) (by intro _; rfl) (by intro _; rfl)) (jk_cons (je_var (n := 1) rfl) jk_nil)) rfl ow) ja_nil)) (by show 2 ≤ 1000000; decide)) rfl ?_
  have smO : smD 4 (.list [bookD p (n : Nat) (openW p n rows (ringI n s l)), bookD p (n : Nat) (openW p n rows (ringI n s l))]) = true := by
    show (true && ([bookD p (n : Nat) (openW p n rows (ringI n s l)), bookD p (n : Nat) (openW p n rows (ringI n s l))] : List PyData).all (smD 3)) = true
    rw [List.all_cons, List.all_cons, B.sm _ oR 0]
    rfl
  refine js_ifNo (jt_not (jt_val (k := true) (je_callG (ok_L_same L) rfl (by show 1 ≤ 9; decide) (ja_cons (je_var (n := 4) rfl) (ja_cons (je_lst (ja_cons (je_var (n := 3) rfl) (ja_cons (je_var (n := 3) rfl) ja_nil)) (by show 2 ≤ 1000000; decide)) ja_nil)) ⟨_, rfl, rfl, smO⟩))) rfl ?_
  refine js_asgE (i := 5) (je_eqI (je_call (ok_L_columns_rank L) (by show 3 ≤ 9; decide) (ja_cons (je_var (n := 1) rfl) (ja_cons (je_var (n := 2) rfl) ja_nil)) ⟨p, n, rows, ringI n s l, rfl, rfl, B.pr, by omega, by omega, hw, by rw [ring_len]; omega, rlt⟩) (je_var (n := 13) rfl)) rfl ?_
  have ha : R_holds_any [bookD p (n : Nat) rows, .tuple [.int (s : Nat), .int (l : Nat)]] (.bool (decide (((crankI p rows (ringI n s l) : Nat) : Int) = (l : Nat)))) := ⟨p, n, s, l, rows, rfl, by
    congr 1
    rw [Bool.eq_iff_iff,
          decide_eq_true_eq, decide_eq_true_eq]
    have a := cols_triv B.pr hw (ks := ringI n s l) rlt
    have b := crank_triv B.pr hw (ks := ringI n s l)
    rw [ring_len] at a b
    have c := b.trans a.symm
    omega, B.pr, by omega, B.red, by omega, by omega⟩
  have smA : smD 4 (.list [.bool (decide (((crankI p rows (ringI n s l) : Nat) : Int) = (l : Nat))), .bool (decide (((crankI p rows (ringI n s l) : Nat) : Int) = (l : Nat)))]) = true := by simp [smD]
  refine js_ifNo (jt_not (jt_val (k := true) (je_callG (ok_L_same L) rfl (by show 1 ≤ 9; decide) (ja_cons (je_lst (ja_cons (je_call (ok_holds_any L) (by show 7 ≤ 9; decide) (ja_cons (je_var (n := 1) rfl) (ja_cons (tup (je_var (n := 12) rfl) (je_var (n := 13) rfl) (by intro _; rfl) (by intro _; rfl)) ja_nil)) ha) (ja_cons (je_kw (ck_holds_any L) rpRev (by show 7 ≤ 9; decide) (jk_cons (tup (je_var (n := 12) rfl) (je_var (n := 13) rfl) (by intro _; rfl) (by intro _; rfl)) (jk_cons (je_var (n := 1) rfl) jk_nil)) rfl ha) ja_nil)) (by show 2 ≤ 1000000; decide)) (ja_cons (je_lst (ja_cons (je_var (n := 5) rfl) (ja_cons (je_var (n := 5) rfl) ja_nil)) (by show 2 ≤ 1000000; decide)) ja_nil)) ⟨_, rfl, rfl, smA⟩))) rfl ?_
  refine js_asgF (i := 6) (jf_call (ok_L_word L) (by show 2 ≤ 9; decide) (i := 0) rfl (ja_cons (je_var (n := 1) rfl) ja_nil) ⟨p, n, rows, rfl, B.pr, by omega, by omega, hw, fun ws ww _ => ?_⟩)
  have flr : ((ringI n s l).map fun k : Nat => PyData.int (k : Nat)).all flatD = true := flat_nats
  refine js_asgLcN (i := 7) (pr := fun _ => true) (f := fun k : Int => digD (if (ringI n s l).contains k.toNat = true then none else some (gI ws k.toNat))) (own := [("_law_k", 15)]) rfl (jw_range1 (j := 15) (je_var (n := 10) rfl) (L.bl _ (by decide)) (by omega)) (pg_nameS (j := 15)) rfl (by decide) (by rw [len_rangeI]; omega) (fun a _ => jc_nil) (fun v_k hm _ => ?_) ?_
  · obtain ⟨k, rfl, hk⟩ := range_nat hm
    refine JE.is (je_ite (k := (ringI n s l).contains k) (jt_is (jt_in (je_var (n := 15) rfl) (je_var (n := 2) rfl) (.l _) rfl flr) any_eqv_int) (fun _ => je_non) fun _ => (je_ixL (je_var (n := 6) rfl) (je_var (n := 15) rfl) (atI_int (by rw [ww.1]; exact hk)))) ?_
    rw [Int.toNat_natCast]
    cases (ringI n s l).contains k <;> rfl
  have dig0 : ∃ ds : List (Option Int), (((rangeI 0 ((n : Nat) : Int)).filter fun _ => true).map fun k : Int => digD (if (ringI n s l).contains k.toNat = true then none else some (gI ws k.toNat))) = ds.map digD ∧ Dgt p n s l ds := by
    refine ⟨(List.range n).map fun k => if (ringI n s l).contains k = true then none else some (gI ws k), by rw [filt_all, map_range, List.map_map]; rfl, by rw [List.length_map, List.length_range], fun o ho i e => ?_, fun k hk => ?_⟩
    · obtain ⟨k, hk, rfl⟩ := List.mem_map.mp ho
      split at e
      · cases e
      · rw [← Option.some.inj e]
        exact ww.get (List.mem_range.mp hk) (by omega)
    · rw [mem_lost, List.length_map, List.length_range, List.getD_eq_getElem?_getD, List.getElem?_map, List.getElem?_range hk]
      show k < n ∧ (if (ringI n s l).contains k = true then none else some (gI ws k)) = none ↔ _
      by_cases z : k ∈ ringI n s l
      · rw [if_pos (by simpa using z)]; exact ⟨fun _ => z, fun _ => ⟨hk, rfl⟩⟩
      · rw [if_neg (by simpa using z)]; exact ⟨fun h => (by cases h.2), fun h => absurd h z⟩
  obtain ⟨ds, ed, G⟩ := dig0
  rw [ed]
  refine js_at (ds' := ds24 p n s l rows ds (.val (.list [bookD p (n : Nat) (openW p n rows (ringI n s l)), bookD p (n : Nat) (openW p n rows (ringI n s l))])) (.val (.bool (decide (((crankI p rows (ringI n s l) : Nat) : Int) = (l : Nat))))) (.val (lI ws)) .unk .unk) rfl ?_
  have isf : ∀ (ds : List (Option Int)), Dgt p n s l ds → R_L_isf [bookD p (n : Nat) rows, .list (ds.map digD), .int ((openW p n rows (ringI n s l)).length : Nat)] fun d => d = .bool true := fun ds G => ⟨p, n, s, l, rows, ds, rfl, B, G, rfl⟩
  have lenO : ∀ {S : SC} {ds : List Slot} {e : Expr} {p' pos : Pos}, JE S ds e (tTI (openW p n rows (ringI n s l))) → S.mg ("len" : Str) = none → S.scope.names.lookup ("len" : Str) = some .globalImplicit → (∀ env, starEach [e] env = (false, eval e env) :: starEach [] env) → JE S ds (.Call (.Name "len" p') [e] [] pos) (.int ((openW p n rows (ringI n s l)).length : Nat)) := fun h hm hg hs => JE.is (je_len h (.t _) hm hg hs) (by rw [List.length_map])
  refine js_ifNotT (m := true) (jf_borrow 7 rfl (jf_call0 C rfl hT (by show 9 ≤ 9; decide) (ja_cons (je_var (n := 1) rfl) (ja_cons (je_var (n := 7) rfl) (ja_cons (lenO (je_ixT (je_var (n := 3) rfl) je_int rfl) (L.bl _ (by decide)) rfl (by intro _; rfl)) ja_nil))) (isf ds G)) fun d hd => by rw [hd]; rfl) ?_
  refine js_forRF (j := 8) (M := fun ds' => ∃ (ds : List (Option Int)) (a b c d e : Slot), Dgt p n s l ds ∧ ds' = ds24 p n s l rows ds a b c d e) ?_ (fun ds' hM => ?_) (L.bl _ (by decide))
  · refine jf_op (fun X h => op_add) je_int (jf_call (ok_L_draw L) (by show 1 ≤ 9; decide) (i := 0) rfl (ja_cons je_int ja_nil) ⟨2, rfl, by decide, by decide, fun v v0 v1 => ⟨_, rd_I0, 1 + v, rfl, by omega, by omega, fun _ ds' => ∃ (ds : List (Option Int)) (a b c d e : Slot), Dgt p n s l ds ∧ ds' = ds24 p n s l rows ds a b c d e, ⟨ds, _, _, _, _, _, G, rfl⟩, fun i ds' hi hP' => ?_, fun ds' h => h⟩⟩)
    obtain ⟨ds, a1, a2, a3, a4, a5, G, rfl⟩ := hP'
    refine js_asgF (i := 14) (jf_call (ok_L_draw L) (by show 1 ≤ 9; decide) (i := 0) rfl (ja_cons (je_var (n := 10) rfl) ja_nil) ⟨_, rfl, by omega, by omega, fun j j0 j1 => ?_⟩)
    obtain ⟨j, rfl⟩ : ∃ j' : Nat, j = j' := ⟨j.toNat, by omega⟩
    have hj : j < ds.length := by rw [G.len]; omega
    refine js_setIF (i := 7) (jj := j) rfl (jf_if (k := (ringI n s l).contains j) (jt_is (jt_in (je_var (n := 14) rfl) (je_var (n := 2) rfl) (.l _) rfl flr) any_eqv_int) (fun hc => jf_of (je_ixO (i := 7) rfl (je_var (n := 14) rfl) (atI_dig hj)) ?_) fun hc => jf_call (ok_L_draw L) (by show 1 ≤ 9; decide) (i := 0) rfl (ja_cons (je_var (n := 9) rfl) ja_nil) ⟨p, rfl, by omega, by omega, fun v v0 v1 => ?_⟩) (je_var (n := 14) rfl) (by rw [List.length_map]; exact ixN_nat hj)
    · have hr : j ∈ ringI n s l := by simpa using hc
      have e := (mem_lost.mp ((G.ring j (by omega)).mpr hr)).2
      refine js_nil ⟨ds.set j none, a1, a2, a3, .val (.int (i : Nat)), .val (.int (j : Nat)), G.set (by omega) (by simp [hr]) (fun i h => by cases h), ?_⟩
      rw [e]
      unfold ds24
      rw [List.map_set]
      rfl
    · have hr : j ∉ ringI n s l := by simpa using hc
      refine js_nil ⟨ds.set j (some v), a1, a2, a3, .val (.int (i : Nat)), .val (.int (j : Nat)), G.set (by omega) (by simp [hr]) (fun i h => by cases h; exact ⟨v0, v1⟩), ?_⟩
      unfold ds24
      rw [List.map_set]
      rfl
  · obtain ⟨ds, a1, a2, a3, a4, a5, G, rfl⟩ := hM
    exact js_retF (JF.mono (jf_borrow 7 rfl (jf_call0 C rfl hT (by show 9 ≤ 9; decide) (ja_cons (je_var (n := 1) rfl) (ja_cons (je_var (n := 7) rfl) (ja_cons (lenO (je_ixT (je_var (n := 3) rfl) je_int rfl) (L.bl _ (by decide)) rfl (by intro _; rfl)) ja_nil))) (isf ds G)) fun d hd => by rw [hd]; rfl) fun d hd => by rw [hd]; exact hP)
end
end Sh


set_option Elab.async false
set_option linter.all false
set_option maxRecDepth 100000
set_option maxHeartbeats 40000000
set_option autoImplicit false
/-! W25: _law_are_books_right -/
namespace Sh
open PySem PySem.Spec
      PyProof.Rows L2
section
variable {P : Program} {w : World} {K :
      PySem.W.Frag} {mg : Str → Option Value} {base : Heap}
theorem pat_at {p : Int} {n i : Nat} {rows : List (List Int)} (hi : i < n) : atI ((patI p n rows).map fun k : Nat => PyData.int (k : Nat)) (i : Int) = some (.int (throwP p n rows i : Nat)) := by
  refine atI_nat ?_
  unfold patI
  rw [List.getElem?_map, List.getElem?_map, List.getElem?_range hi]
  rfl
theorem okD_tI (n : Nat) (ws : List Int) : okD (n + 1) (tI ws) = true := by
  show (ws.map PyData.int).all (okD n) = true
  rw [List.all_map]
  exact List.all_eq_true.mpr fun _ _ => by cases n <;> rfl
theorem ok_L_abr {T : List (Addr × Str)} (L : Lib K mg fns bls) (C : CalG P w K mg base "_law_is_right" 10 (spFT T R_L_isr)) : CalG P w K mg base "_law_are_books_right" 11 (spFT T R_L_tt) := by
  obtain ⟨f, fd, F, hm⟩ := L.fn 77 _ _ rfl
  refine calG_of F (fn_feedGT (N := ["_law_feed_here", "_law_lap", "_law_book_now", "_law_turn", "_law_length", "_law_far", "_law_was", "_law_throws_now", "_law_many", "_law_start", "_law_k"]) (ps := ["_law_feed_here"]) (k := 10) F ⟨rfl, rfl, rfl, by decide +kernel, rfl, by decide +kernel, by decide +kernel⟩ ?_ ?_) hm (bind1 fun _ _ _ _ _ _ _ => rfl)
  · rintro args d ⟨rfl, _⟩; rfl
  rintro args Pd ⟨rfl, hP⟩ fa hT
  refine js_forM (P := fun _ ds' => ∃ a b c d e f g h i j, ds' = [.fd, a, b, c, d, e, f, g, h, i, j]) (jw_range1 (j := 1) je_int (L.bl _ (by decide)) (by omega)) (pg_nameS (j := 1)) ⟨_, _, _, _, _, _, _, _, _, _, rfl⟩ (fun q a ds' hq hP' => ?_) fun ds' hP' => ?_
  · obtain ⟨a1, a2, a3, a4, a5, a6, a7, a8, a9, a10, rfl⟩ := hP'
    refine js_asgF (i := 2) (jf_call (ok_L_book L) (by show 3 ≤ 10; decide) (i := 0) rfl (ja_cons je_int ja_nil) ⟨7, rfl, by decide, by decide, fun p n rows hp n1 n7 hR hA => ?_⟩)
    refine js_ifF (M := fun ds' => ∃ (p : Int) (n : Nat) (rows : List (List Int)), Bk p n rows ∧ ds' = [.fd, .val (.int a), .val (bookD p (n : Nat) rows), a3, a4, a5, a6, a7, a8, a9, a10]) (jtf_cmp (fun X h => op_gt) (jf_call (ok_L_draw L) (by show 1 ≤ 10; decide) (i := 0) rfl (ja_cons je_int ja_nil) ⟨3, rfl, by decide, by decide, fun v v0 v1 => ⟨.int 0, _, je_int, rd_B0, fun _ => ?_, fun _ => js_nil ⟨p, n, rows, ⟨hp, n1, by omega, hR, hA⟩, rfl⟩⟩⟩) (nomark _)) fun ds' hM => ?_
    · refine js_asgF (i := 2) (jf_call (ok_L_bridged_book L) (by show 3 ≤ 10; decide) (i := 0) rfl (ja_cons je_int ja_nil) ⟨7, rfl, by decide, by decide, fun p n rows hp n1 n7 hR hA => js_nil ⟨p, n, rows, ⟨hp, n1, by omega, hR, hA⟩, rfl⟩⟩)
    clear n1 n7 hR hA hp
    obtain ⟨p, n, rows, B, rfl⟩ := hM
    have n1 := B.n1
    have n2 := B.n2
    have hrl := B.len
    have hw := B.red.wd
    have smB : smD 3 (bookD p (n : Nat) rows) = true := B.sm rows B.red 0
    refine js_unpack (js := [6, 7]) (je_tup (ja_cons (je_repr 3 rfl (je_var (n := 2) rfl) smB (by decide) (L.bl _ (by decide))) (ja_cons (je_call (ok_L_pattern L) (by show 4 ≤ 10; decide) (ja_cons (je_var (n := 2) rfl) ja_nil) ⟨p, n, rows, rfl, rfl, B.pr, by omega, by omega, by omega, hw⟩) ja_nil)) (by show 2 ≤ 1000000; decide)) (.one (.one .nil)) rfl ?_ (h3 := fun env h => (swapped_env h).trans rfl)
    refine js_forM (P := fun _ ds' => ∃ b, ds' = [.fd, .val (.int a), .val (bookD p (n : Nat) rows), b, a4, a5, .val (.str (bookD p (n : Nat) rows).shown), .val (tN (patI p n rows)), a8, a9, a10]) (jw_range1 (j := 3) je_int (L.bl _ (by decide)) (by omega)) (pg_nameS (j := 3)) ⟨_, rfl⟩ (fun u b ds' hu hP' => ?_) fun ds' hP' => ?_
    · obtain ⟨b1, rfl⟩ := hP'
      exact js_ifNotT (m := true) (jf_callGT C rfl hT (by show 10 ≤ 10; decide) (i := 0) rfl (ja_cons (je_var (n := 2) rfl) ja_nil) ⟨p, n, rows, rfl, B, rfl⟩) (js_nil ⟨_, rfl⟩)
    · obtain ⟨b1, rfl⟩ := hP'
      refine js_unpackF (js := [8, 9]) (jf_tup (jaf_cons (jf_of (je_ixT (d := .int (n : Nat)) (je_var (n := 2) rfl) je_int rfl) (jaf_cons (jf_call (ok_L_draw L) (by show 1 ≤ 10; decide) (i := 0) rfl (ja_cons (je_ixT (d := .int (n : Nat)) (je_var (n := 2) rfl) je_int rfl) ja_nil) ⟨_, rfl, by omega, by omega, fun s s0 s1 => jaf_nil ⟨by show 2 ≤ 1000000; decide, _, rfl, rfl, ?_⟩⟩))))) (.one (.one .nil)) (h3 := fun env h => (swapped_env h).trans rfl)
      obtain ⟨s, rfl⟩ : ∃ s' : Nat, s = s' := ⟨s.toNat, by omega⟩
      refine js_asgF (i := 4) (jf_call (ok_L_draw L) (by show 1 ≤ 10; decide) (i := 0) rfl (ja_cons (je_add (je_var (n := 8) rfl) je_int) ja_nil) ⟨_, rfl, by omega, by omega, fun l l0 l1 => ?_⟩)
      obtain ⟨l, rfl⟩ : ∃ l' : Nat, l = l' := ⟨l.toNat, by omega⟩
      refine js_asgFl (pr := fun k : Int => decide ((n : Int) - k ≤ (throwP p n rows ((s + k.toNat) % n) : Nat))) (f := fun k : Int => .int k) (i := 5) (own := [("_law_k", 10)]) rfl (jw_range1 (j := 10) (je_var (n := 4) rfl) (L.bl _ (by decide)) (by omega)) (pg_nameS (j := 10)) (fun v_k hm => ?_) (fun v_k hm hp => (je_var (n := 10) rfl)) (by rw [len_rangeI]; omega) (d := lN ((List.range l).filter fun k => decide ((n : Int) - (k : Nat) ≤ (throwP p n rows ((s + k) % n) : Nat)))) ?_ ?_
      · obtain ⟨k, rfl, hk⟩ := range_nat hm
        exact jt_ge (je_ixT (je_var (n := 7) rfl) (JE.is (je_mod (je_int1 (je_add (je_var (n := 9) rfl) (je_var (n := 10) rfl)) (L.bl _ (by decide))) (je_var (n := 8) rfl) (by omega)) (y := .int ((s + k) % n : Nat)) (by rw [nat_mod]; rfl)) (pat_at (Nat.mod_lt _ (by omega)))) (je_sub (je_var (n := 8) rfl) (je_var (n := 10) rfl))
      · rw [filt_range]
        rfl
      have oe := open_eq B.pr B.red (ringI n s l)
      have ow : R_open_words [bookD p (n : Nat) rows, .tuple [.int (s : Nat), .int (l : Nat)]] (bookD p (n : Nat) (openW p n rows (ringI n s l))) := ⟨p, n, s, l, rows, rfl, by rw [oe], B.pr, by omega, B.red, by omega, by omega⟩
      have fi := far_iff B.pr B.red (by omega) (s := s) (l := l) (by omega)
      have same : PyData.eqv (tTI (openW p n rows (ringI n s l))) (.tuple []) = PyData.eqv (lN ((List.range l).filter fun k => decide ((n : Int) - (k : Nat) ≤ (throwP p n rows ((s + k) % n) : Nat)))) (.list []) := by
        rw [show tTI (openW p n rows (ringI n s l)) = PyData.tuple _ from rfl, eqv_nilT, show lN ((List.range l).filter fun k => decide ((n : Int) - (k : Nat) ≤ (throwP p n rows ((s + k) % n) : Nat))) = PyData.list _ from rfl, eqv_nilL, List.isEmpty_map, List.isEmpty_map, Bool.eq_iff_iff, List.isEmpty_iff, List.isEmpty_iff, fi, List.filter_eq_nil_iff]
        constructor
        · intro h k hk
          have := h k (List.mem_range.mp hk)
          simp
          omega
        · intro h k hk
          have := h k (List.mem_range.mpr hk)
          simp at this
          omega
      refine js_ifNo (jt_or2 (k := false) (l := false) (jt_is (jt_neD 3 (je_eqD 4 (je_ixT (d := tTI (openW p n rows (ringI n s l))) (je_call (ok_open_words L) (by show 6 ≤ 10; decide) (ja_cons (je_var (n := 2) rfl) (ja_cons (je_tup (ja_cons (je_var (n := 9) rfl) (ja_cons (je_var (n := 4) rfl) ja_nil)) (by show 2 ≤ 1000000; decide)) ja_nil)) ow) je_int rfl) (je_tup ja_nil) ?_ rfl) (je_eqD 3 (je_var (n := 5) rfl) (je_lst ja_nil) ?_ rfl) rfl rfl) ?_) fun _ => jt_is (jt_neS (je_repr 3 rfl (je_var (n := 2) rfl) smB (by decide) (L.bl _ (by decide))) (je_var (n := 6) rfl)) (by simp)) rfl (js_nil ⟨_, _, _, _, _, _, _, _, _, _, rfl⟩)
      · show (List.map (tupE PyData.int) _).all (okD 3) = true
        rw [List.all_map]
        exact List.all_eq_true.mpr fun r _ => okD_tI 2 r
      · show (List.map _ _).all (okD 2) = true
        rw [List.all_map]
        exact List.all_eq_true.mpr
              fun _ _ => rfl
      · rw [same]
        cases PyData.eqv (lN ((List.range l).filter fun k => decide ((n : Int) - (k : Nat) ≤ (throwP p n rows ((s + k) % n) : Nat)))) (.list []) <;> rfl
  · obtain ⟨a1, a2, a3, a4, a5, a6, a7, a8, a9, a10, rfl⟩ := hP'
    exact js_retF (jf_of je_bl hP)
end
end Sh


set_option Elab.async false
set_option linter.all false
set_option maxRecDepth 100000
set_option maxHeartbeats 40000000
set_option autoImplicit false
/-! W26: _law_feed, law -/
namespace Sh
open PySem PySem.Spec
      PyProof.Rows L2
open LamX (TabB)
theorem ts_fa {S : SC} {fa : FA} {sts : List Stmt} {E : Ends} {σ : L2.St} {H : Hp} (h : tsOf { S with fa := fa } sts E σ H) : tsOf S sts E σ H := by
  obtain ⟨t, h1, h2⟩ := h
  exact ⟨t, fun X hX => h1 X ⟨hX.prog, hX.w, hX.K, hX.mg, hX.base, hX.N, hX.nd, hX.scope, hX.fn, hX.calm, hX.room, hX.gd, hX.tk, hX.ps, hX.ev⟩, h2⟩
/-- a new feed -/
def spNew (K : PySem.W.Frag) : Sp := fun vs H Q _ => ∃ (a : Addr) (ns : List Int), vs = [.ref a] ∧ SqL K H a (ns.map V.int) ∧ ∀ (q c : Addr) (cells : List Int) (H' : Hp), H q = none → H c = none → c ≠ q → Same H H' → H' q = some (.dK (feedKvs c 0 0 0)) → H' c = some (.lst (cells.map V.int)) → cells.length ≤ 63 → Q (.ref q) H'
theorem cut63 (ns : List Int) : ∃ cells : List Int, cutV (ns.map V.int) none (some 63) = cells.map V.int ∧ cells.length ≤ 63 := by
  refine ⟨ns.take 63, ?_, by rw [List.length_take]; omega⟩
  have e : HT.sIx (ns.map V.int).length (ns.map V.int).length (some 63) = min 63 (ns.map V.int).length := HT.sIx_nat _ _ 63
  unfold cutV
  rw [e]
  show ((ns.map V.int).drop 0).take (min 63 (ns.map V.int).length - 0) = _
  rw [List.drop_zero, Nat.sub_zero, ← List.map_take]
  congr 1
  rw [List.length_map]
  by_cases h : ns.length ≤ 63
  · rw [Nat.min_eq_right h, List.take_length, List.take_of_length_le h]
  · rw [Nat.min_eq_left (by omega)]
theorem sq_ext {K : PySem.W.Frag} {H H' : Hp} {a : Addr} {xs : List V} (h : SqL K H a xs) (e : Same H H') : SqL K H' a xs := by
  rcases h with (h
        | ⟨o, h⟩) | h
  · exact .inl (.inl (e _ _ h))
  · exact .inl (.inr
          ⟨o, e _ _ h⟩)
  · exact .inr h
section
variable {P : Program} {w : World} {K :
      PySem.W.Frag} {mg : Str → Option Value} {base : Heap}
theorem ok_L_feed (L : Lib K mg fns bls) : Cal P w K mg base "_law_feed" 1 (spNew K) := by
  obtain ⟨f, fd, F, hm⟩ := L.fn 47 _ _ rfl
  have Sc : FnScope ["_law_script"] ["_law_script"] (defScope s_L_feed) := ⟨rfl, rfl, rfl, by decide +kernel, rfl, by decide +kernel, by decide +kernel⟩
  refine cal_of F (F.ok Sc (fun vs H Q E h => ?_) fun cdv A outer s H vs Q E hr h => ?_) hm (bind1 fun _ _ _ _ _ _ _ => rfl)
  · obtain ⟨a, ns, rfl, _⟩ := h
    rfl
  · obtain ⟨a, ns, rfl, hS, kq⟩ := h
    have hH := holds_def (P := P) (w := w) (K := K) (mg := mg) (base := base) (CX := CX0) (outer := outer) (H := H) (E := E) (fa := ⟨0, 0, []⟩) (k := 0) Sc hr
    refine ⟨tsOf (scD P w K mg base ["_law_script"] s_L_feed 0 false ⟨0, 0, []⟩) (defBody s_L_feed), PSs.nox (pss_tsOf hH), ?_⟩
    refine ts_cons (ts := tRet (tDisp [(tC (.str "cells"), tCB (fun xs H Q => ∃ p ys, xs = [.ref p] ∧ (SqL K H p ys ∨ SqT K H p ys) ∧ ∀ l, H l = none → Q (.ref l) (upd H l (.lst ys))) (tCons (tSl (rSlL K) (tVar 0) tNoPart (tPart (tC (.int 63)))) tNil)), (tC (.str "next"), tC (.int 0)), (tC (.str "left"), tC (.int 0)), (tC (.str "turn"), tC (.int 0))])) (fun X hX => ps_ret (pe_disp (pps_cons pe_str (by
      rw [← show X.K = K from hX.K]
      exact pe_callTy call_list_of (gl_of hX rfl) (hX.mg ▸ L.bl _ (by decide)) (by decide +kernel) (pa_cons (pe_slice sl_list (pe_var (i := 0) (hX.N ▸ rfl) (hX.scope ▸ Or.inl rfl) (by decide) (by decide)) po_none (po_some pe_int)) pa_nil (by rfl)) (by decide) (by decide) (by rfl) (by rfl)) (pps_cons pe_str pe_int (pps_cons pe_str pe_int (pps_cons pe_str pe_int pps_nil)))) rfl rfl (by simp) (by decide))) ?_
    intro q hq
    obtain ⟨cells, ec, lc⟩ := cut63 ns
    refine ⟨_, rfl, 63, rfl, a, _, rfl, sq_ext hS (Same.upd_new hq), fun l hl => ⟨l, _, rfl, .inl (SqL.of upd_same), fun c hc => ?_⟩⟩
    have lq : l ≠ q := fun z => by rw [z, upd_same] at hl; cases hl
    have cl : c ≠ l := fun z => by rw [z, upd_same] at hc; cases hc
    have cq : c ≠ q := fun z => by rw [z, upd_ne (fun w => lq w.symm), upd_same] at hc; cases hc
    have cH : H c = none := by rw [upd_ne cl, upd_ne cq] at hc; exact hc
    refine ⟨by rw [upd_ne (fun w => cq w.symm), upd_ne (fun w => lq w.symm), upd_same], [(.inr "cells", .ref c), (.inr "next", .int 0), (.inr "left", .int 0), (.inr "turn", .int 0)], rfl, (by show 4 ≤ 15; decide), ?_⟩
    refine kq q c cells _ hq cH cq (fun b o hb => ?_) upd_same (by rw [upd_ne cq, upd_same, ec]) lc
    have b1 : b ≠ q := fun z => by rw [z, hq] at hb; cases hb
    have b2 : b ≠ c := fun z => by rw [z, cH] at hb; cases hb
    have b3 : b ≠ l := fun z => by rw [z] at hb; rw [upd_ne lq] at hl; rw [hl] at hb; cases hb
    rw [upd_ne b1, upd_ne b2, upd_ne b3, upd_ne b1]
    exact hb
end
section
variable {S : SC} {ds : List Slot} {a b : Expr} {pos : Pos} {P : PyData → Prop}
theorem jf_andT (ha : JF S ds a fun d => d = .bool true) (hb : JF S ds b P) : JF S ds (.BoolOp .And [a, b] pos) P := by
  intro O σ H st hf f Q kk
  refine te_mk (fun X h => pe_and (pe_teOf h) (pe_one (pe_teOf h))) ?_
  refine ha O σ H st hf f _ fun v d H1 e1 f1 r1 hd => ?_
  subst hd
  cases r1
  refine ⟨true, rfl, iteT (hb O σ H1 (st.monoF hf f e1 f1) hf f1 Q fun v d H2 e2 f2 r2 hp => kk v d H2 (e1.trans e2) f2 r2 hp)⟩
end
section
variable {P : Program} {w : World} {K :
      PySem.W.Frag} {mg : Str → Option Value} {base : Heap}
/-- the law's promise: of a list of whole numbers, True -/
def spLaw (K : PySem.W.Frag) (T : List (Addr × Str)) : Sp := fun vs H Q _ => ∃ (a : Addr) (ns : List Int), vs = [.ref a] ∧ SqL K H a (ns.map V.int) ∧ (∀ z ∈ T, H z.1 = some (.tbl #[])) ∧ ∀ H', Q (.bl true) H'
theorem fn_law {T : List (Addr × Str)} (L : Lib K mg fns bls) (C : CalG P w K mg base "_law_are_books_right" 11 (spFT T R_L_tt)) {f : Addr} {fd : FuncData} (F : FnP K "law" s_law f fd) : FnG P w K mg base 12 f fd ["_law_script"] (spLaw K T) := by
  have Sc : FnScope ["_law_script", "_law_feed_here"] ["_law_script"] (defScope s_law) := ⟨rfl, rfl, rfl, by decide +kernel, rfl, by decide +kernel, by decide +kernel⟩
  refine FnG.of F Sc (fun vs H Q E h => ?_) fun cdv A outer s H vs Q E hg hr h => ?_
  · obtain ⟨a, ns, rfl, _⟩ := h
    rfl
  · obtain ⟨a, ns, rfl, hS, hT, kq⟩ := h
    refine ⟨tsOf (scD P w K mg base ["_law_script", "_law_feed_here"] s_law 11 true ⟨0, 0, []⟩) (defBody s_law), PSs.nox (pss_tsOf (holds_defG Sc hg hr)), ?_⟩
    refine ts_cons (ts := tAsg (tCall (spNew K) [] E0 (tCons (tVar 0) tNil)) (gName 1)) (fun X h => ps_set (h.N ▸ h.nd) (i := 1) (h.N ▸ rfl) (h.scope ▸ Or.inl rfl) (pe_cal h (ok_L_feed (P := P) (w := w) (base := base) L) (by show 1 ≤ 11; decide) rfl (pa_cons (pe_var (i := 0) (h.N ▸ rfl) (h.scope ▸ Or.inl rfl) (by decide) (by decide)) pa_nil (by rfl)) (by decide) (by intro _; rfl) (by intro _; rfl)) (by rfl) (by rw [h.fn]; exact Or.inl rfl)) ?_
    refine ⟨_, rfl, a, ns, rfl, hS, fun q c cells H1 hq hc cq e1 h1 h2 h3 => ?_⟩
    refine ts_fa (fa := ⟨q, c, T⟩) ?_
    have tq : ∀ z ∈ T, z.1 ≠ q ∧ z.1 ≠ c := fun z hz => ⟨fun y => (by rw [← y, hT z hz] at hq; cases hq), fun y => (by rw [← y, hT z hz] at hc; cases hc)⟩
    have cO : c ∉ FA.all ⟨q, c, T⟩ := fun z => by
      rcases List.mem_cons.mp z with y | y
      · exact cq y
      · obtain ⟨x, hx, e⟩ := List.mem_map.mp y
        exact (tq x hx).2 e
    have fe : Feed ⟨q, c, T⟩ (FA.all ⟨q, c, T⟩) H1 := by
      refine ⟨⟨c, cells, 0, 0, 0, h1, by decide, by decide, by rw [hide_out cO]; exact h2, h3, rfl⟩, fun z hz => ⟨#[], e1 _ _ (hT z hz), ?_, fun pos cv h => ?_⟩⟩
      · trivial
      · cases h
    have J : JS { scD P w K mg base ["_law_script", "_law_feed_here"] s_law 11 true ⟨0, 0, []⟩ with fa := ⟨q, c, T⟩ } true (defBody s_law).tail [.unk, .fd] { nx := fun _ => False, rt := fun d => d = .bool true } := by
      refine js_ifF (M := fun ds' => ds' = [.unk, .fd]) (jtf_cmp (fun X h => op_eq) (jf_call (ok_L_draw L) (by show 1 ≤ 11; decide) (i := 1) rfl (ja_cons je_int ja_nil) ⟨2, rfl, by decide, by decide, fun v v0 v1 => ⟨.int 0, _, je_int, rd_eqI, fun _ => ?_, fun _ => js_nil rfl⟩⟩) (nomark _)) fun ds' hM => ?_
      · exact js_retF (jf_andT (jf_callG (ok_L_are_throws_right L) rfl (by show 8 ≤ 11; decide) (i := 1) rfl ja_nil ⟨rfl, rfl⟩) (jf_callGT C rfl rfl (by show 11 ≤ 11; decide) (i := 1) rfl ja_nil ⟨rfl, rfl⟩))
      · subst hM
        exact js_retF (jf_andT (jf_callGT C rfl rfl (by show 11 ≤ 11; decide) (i := 1) rfl ja_nil ⟨rfl, rfl⟩) (jf_callG (ok_L_are_throws_right L) rfl (by show 8 ≤ 11; decide) (i := 1) rfl ja_nil ⟨rfl, rfl⟩))
    refine J (FA.all ⟨q, c, T⟩) (fun _ => none) (FA.all ⟨q, c, T⟩) H1 _ ⟨fun _ h => h, (fun b o z => by cases z), fun i xs l q1 => ?_, fun l z1 z2 => absurd z1 z2, ⟨rfl, fun i sl q1 => ?_, fun i j xs ys l q1 => ?_, fun b hb => (fe.at_ hb).1⟩, fun _ => ⟨fun _ h => h, fe, fun _ _ => rfl⟩⟩ _ ⟨fun _ _ _ _ _ h => h.elim, (fun v d H' _ _ r hd => by subst hd; cases r; exact kq H'), fun _ _ _ _ _ h => h.elim, fun _ _ _ _ _ h => h.elim, fun _ _ _ _ _ _ _ _ _ _ _ h => h.elim⟩
    · match i, q1 with
      | 0, q1 => cases q1
      | 1, q1 => cases q1
    · match i, q1 with
      | 0, q1 => cases q1; exact ⟨_, rfl, trivial⟩
      | 1, q1 => cases q1; exact ⟨_, rfl, rfl⟩
    · match i, q1 with
      | 0, q1 => cases q1
      | 1, q1 => cases q1
end
end Sh


set_option Elab.async false
set_option linter.all false
set_option maxRecDepth 100000
set_option maxHeartbeats 40000000
set_option autoImplicit false
/-! H1: what the head tells of the exception classes -/
namespace Sh
open PySem PySem.Spec
      PyProof.Rows L2
open He (ga ma fAd ba)
/-! ### an own exception class -/
def oexB (K : PySem.W.Frag) (C : Addr) : Bool := (match K.lookup C with
  | some ⟨.type "type", _, .cls cd,
        sl⟩ => (match cd.mro, sl.toList with
    | .ref C' :: bm, [_, _, _, _, some (.builtin n), _] => C' == C && (n == "ValueError.__new__" && (!cd.hasDel && (cd.hasDict && PySem.HandSPX.refsVE bm)))
    | _, _ => false)
  | _ => false) && (decide (PySem.W.findIn K (.ref C) "__setattr__" = some (some (.builtin "object.__setattr__"))) && (decide (PySem.W.subIn K (.ref C) (.type "BaseException") = some true) && (decide (PySem.W.typeIn K (.ref C) = some (.type "type")) && PySem.W.keepIn K (.ref C))))
theorem oexB_ok {K : PySem.W.Frag} {C : Addr} (h : oexB K C = true) : OexC K C := by
  obtain ⟨q, h⟩ := ba h
  obtain ⟨h1, h⟩ := ba h
  obtain ⟨h2, h⟩ := ba h
  obtain ⟨h3, h4⟩ := ba h
  refine ⟨?_, of_decide_eq_true h1, of_decide_eq_true h2, of_decide_eq_true h3, h4⟩
  split at q
  · rename_i dd cd sl ho
    split at q
    · rename_i C' bm k0
            k1 k2 k3 n k5 hm hs
      simp only [Bool.and_eq_true,
            beq_iff_eq, Bool.not_eq_true'] at q
      obtain ⟨rfl, rfl, hdel, hd1, hv⟩ := q
      obtain ⟨nm, bs, mro, ns, qn,
            hd, sn, sub, ab, col, del⟩ := cd
      dsimp only at hm hdel hd1
      subst hm hdel hd1
      have hsl : sl = #[k0, k1, k2, k3, some (.builtin "ValueError.__new__"), k5] := by
        obtain ⟨l⟩ := sl
        simp only at hs
        rw [hs]
      subst hsl
      exact ⟨nm, qn, ns, bs, bm, sn, sub, ab, col, dd, k0, k1, k2, k3, k5, ho, hv⟩
    · cases q
  · cases q
/-! ### its __init__ -/
abbrev InW : Type := Option (Str × Arguments × FuncBody × Scope × Addr × List Str × Addr)
def initW (K : PySem.W.Frag) (x : Str) : InW := match K.lookup (ma K (ga K x) "__init__") with
  | some ⟨_, _, .func fd, _⟩ => some (fd.name, fd.params, fd.body, fd.scope, fd.globals, fd.closure.map (·.1), fd.builtins)
  | _ => none
def initV (st : Stmt) : InW := some ("__init__", defArgs st, .stmts (defBody st), defScope st, mainGlobals, ["__class__"], builtinsNs)
def cellB (K : PySem.W.Frag) (cl : List (Str × Addr)) (C : Addr) : Bool := match cl with
  | [(_, cc)] => (match K.lookup cc with
    | some ⟨_, _, .cell (some (.ref c2)), _⟩ => decide (c2 = C)
    | _ => false)
  | _ => false
def noneB : Value → Bool
  | .none => true
  | _ => false
def fileB (P : Program) (K : PySem.W.Frag) (code : Value) (qual : Str) : Bool := match code with
  | .ref cda => PySem.W.codeIn K (.ref cda) qual && (match K.lookup cda with
    | some ⟨_, _, .fields vs, _⟩ => (match (vs[2]? : Option Value) with
      | some (.str file _) => (P.main.file : Str) == file
      | _ => false)
    | _ => false)
  | _ => false
def fnB (P : Program) (K : PySem.W.Frag) (x : Str) : Bool := match K.lookup (ma K (ga K x) "__init__") with
  | some ⟨_, _, .func fd, _⟩ => cellB K fd.closure (ga K x) && (noneB fd.defaults && fileB P K fd.code fd.qualname)
  | _ => false
def supB (P : Program) (K : PySem.W.Frag) (x f : Str) : Bool := oexB K (ga K x) && (fnB P K x && (decide (PySem.W.findIn K (.ref (ga K x)) "__init__" = some (some (.ref (ma K (ga K x) "__init__")))) && (decide (PySem.W.typeIn K (.ref (ma K (ga K x) "__init__")) = some (.type "function")) &&
  (decide (PySem.W.ks_superIn K (ga K x) (ga K x) "__init__" = some (some (.builtin "ValueError.__init__"))) && (decide (PySem.W.mroIn K (ga K x) (.ref (ga K x)) = some true) && (decide (PySem.W.subIn K (.ref (ga K x)) (.type "ValueError") = some true) &&
  (decide (PySem.W.nsIn K cStatics "thirdparty.any" = some none) && decide (PySem.W.findIn K (.ref (ga K x)) f = some none))))))))
theorem cellB_ok {K : PySem.W.Frag} {cl : List (Str × Addr)} {C : Addr} (h : cellB K cl C = true) : ∃ y cc, cl = [(y, cc)] ∧ ∃ (a : Value) (b : Option Addr) (c : Array (Option Value)), K.lookup cc = some ⟨a, b, .cell (some (.ref C)), c⟩ := by
  unfold cellB at h
  split at h
  · rename_i y cc
    split at h
    · rename_i a b c2 d e
      have := of_decide_eq_true h
      subst this
      exact ⟨_, _, rfl, _, _, _, e⟩
    · cases h
  · cases h
theorem fileB_ok {P : Program} {K : PySem.W.Frag} {code : Value} {q : Str} (h : fileB P K code q = true) : ∃ cda, code = .ref cda ∧ PySem.W.codeIn K (.ref cda) q = true ∧ ∃ (a : Value) (b : Option Addr) (vs : Array Value) (c : Array (Option Value)) (file : Str) (tf : Tok), K.lookup cda = some ⟨a, b, .fields vs, c⟩ ∧ vs[2]? = some (.str file tf) ∧ ((P.main.file : Str) == file) = true := by
  unfold fileB at h
  split at h
  · rename_i cda
    obtain ⟨h1, h2⟩ := ba h
    refine ⟨_, rfl, h1, ?_⟩
    split at h2
    · rename_i a b vs c e
      split at h2
      · rename_i file tf e2
        exact ⟨_, _, _, _, _, _, e, e2, h2⟩
      · cases h2
    · cases h2
  · cases h
theorem noneB_ok {v : Value} (h : noneB v = true) : v = .none := by
  cases v <;> first | rfl | cases h
theorem supB_ok {P : Program} {K : PySem.W.Frag} {x f : Str} {st : Stmt} (h : supB P K x f = true) (e : initW K x = initV st) (ht : (P.main.scope.names.lookup ("super" : Str)).isSome = false) :
    ∃ fd, SupC P K (ga K x) (ma K (ga K x) "__init__") fd f st ∧ PySem.W.findIn K (.ref (ga K x)) "__init__" = some (some (.ref (ma K (ga K x) "__init__"))) ∧ PySem.W.typeIn K (.ref (ma K (ga K x) "__init__")) = some (.type "function") := by
  obtain ⟨h1, h⟩ := ba h
  obtain ⟨h2, h⟩ := ba h
  obtain ⟨h3, h⟩ := ba h
  obtain ⟨h4, h⟩ := ba h
  obtain ⟨h5, h⟩ := ba h
  obtain ⟨h6, h⟩ := ba h
  obtain ⟨h7, h⟩ := ba h
  obtain ⟨h8, h9⟩ := ba h
  unfold fnB at h2
  unfold initW initV at e
  cases q : K.lookup (ma K (ga K x) "__init__") with
  | none => rw
        [q] at e; cases e
  | some o =>
    obtain ⟨oc, od, dt, osl⟩ := o
    rw [q] at e h2
    cases dt with
    | func fd =>
      obtain ⟨n1, n2, n3, n4, n5, n6, n7, n8,
            n9, n10, n11, n12, n13, n14, n15⟩ := fd
      have e2 : (some (n1, n3, n4, n5, n6, n7.map (·.1), n15) : InW) = (some ("__init__", defArgs st, .stmts (defBody st), defScope st, mainGlobals, ["__class__"], builtinsNs) : InW) := e
      simp only [Option.some.injEq,
            Prod.mk.injEq] at e2
      obtain ⟨r1, r2, r3, r4, r5, r6, r7⟩ := e2
      subst r1 r2 r3 r4 r5 r7
      have h2 : (cellB K n7 (ga K x) && (noneB n8 && fileB P K n13 n2)) = true := h2
      obtain ⟨k1, k2⟩ := ba h2
      obtain ⟨k3, k4⟩ := ba k2
      obtain ⟨y, cc, rfl, c1, c2, c3, c4⟩ := cellB_ok k1
      have ey : y = "__class__" := by
        have : [y] = (["__class__"] : List Str) := r6
        injection this
      subst ey
      obtain ⟨cda, rfl, f1, f2⟩ := fileB_ok k4
      exact ⟨_, ⟨oexB_ok h1, ⟨n2, n8, n9, n10, n11, n14, n12, cda, cc, oc, od, osl, rfl, q, f1, f2, ⟨c1, c2, c3, c4⟩, noneB_ok k3⟩, of_decide_eq_true h5, of_decide_eq_true h6, of_decide_eq_true h7, of_decide_eq_true h8, of_decide_eq_true h9, ht⟩, of_decide_eq_true h3, of_decide_eq_true h4⟩
    | _ => cases e
/-! ### against the others -/
def isxB (K : PySem.W.Frag) (C : Addr) : Bool := (PySem.W.clsIn K C).isSome && (decide (PySem.W.findIn K (.ref C) "__getattribute__" = some (some (.builtin "BaseException.__getattribute__"))) && (decide (PySem.W.findIn K (.ref C) "__getattr__" = some none) && (decide (PySem.W.subIn K (.ref C) (.type "BaseException") = some true) &&
  (decide (PySem.W.findIn K (.ref C) "__class__" = some (some (.builtin "object.__class__"))) && (decide (PySem.W.specialIn K (.builtin "object.__class__") "__get__" = some (some (.builtin "getset_descriptor.__get__"))) && (decide (PySem.W.takesIn K (.builtin "object.__class__") = some true) && (decide (PySem.W.mroIn K C (.type "object") = some true) && PySem.W.hasDictIn K C)))))))
theorem isxB_ok {K : PySem.W.Frag} {C : Addr} (h : isxB K C = true) : IsxC K C := by
  obtain ⟨h1, h⟩ := ba h
  obtain ⟨h2, h⟩ := ba h
  obtain ⟨h3, h⟩ := ba h
  obtain ⟨h4, h⟩ := ba h
  obtain ⟨h5, h⟩ := ba h
  obtain ⟨h6, h⟩ := ba h
  obtain ⟨h7, h⟩ := ba h
  obtain ⟨h8, h9⟩ := ba h
  exact ⟨h1, of_decide_eq_true h2, of_decide_eq_true h3, of_decide_eq_true h4, of_decide_eq_true h5, of_decide_eq_true h6, of_decide_eq_true h7, of_decide_eq_true h8, h9⟩
def kitB (K : PySem.W.Frag) (x y : Str) (b : Bool) : Bool := decide (PySem.W.kitOne K (.ref (ga K x)) (.ref (ga K y)) = some b)
def oneB (K : PySem.W.Frag) (x : Str) (isL : Bool) (f : Str) : Bool := isxB K (ga K x) && (decide (PySem.W.exmOne K (.ref (ga K x)) (.ref (ga K "RingError")) = some true) && (kitB K x "InvalidPaper" false && (kitB K x "PaperError" false && (kitB K x "ShelfError" true && (kitB K x "NotUsable" false &&
  (kitB K x "Lost" isL && (kitB K x "Barred" false && (kitB K x "Torn" (!isL) && decide (PySem.W.findIn K (.ref (ga K x)) f = some none)))))))))
theorem oneB_ok {K : PySem.W.Frag} {x f : Str} {isL : Bool} (h : oneB K x isL f = true) : HOne K (ga K x) (ga K "RingError") (ga K "InvalidPaper") (ga K "PaperError") (ga K "ShelfError") (ga K "NotUsable") (ga K "Lost") (ga K "Barred") (ga K "Torn") isL f := by
  obtain ⟨h1, h⟩ := ba h
  obtain ⟨h2, h⟩ := ba h
  obtain ⟨h3, h⟩ := ba h
  obtain ⟨h4, h⟩ := ba h
  obtain ⟨h5, h⟩ := ba h
  obtain ⟨h6, h⟩ := ba h
  obtain ⟨h7, h⟩ := ba h
  obtain ⟨h8, h⟩ := ba h
  obtain ⟨h9, h10⟩ := ba h
  exact ⟨isxB_ok h1, of_decide_eq_true h2, of_decide_eq_true h3, of_decide_eq_true h4, of_decide_eq_true h5, of_decide_eq_true h6, of_decide_eq_true h7, of_decide_eq_true h8, of_decide_eq_true h9, of_decide_eq_true h10⟩
def exB (P : Program) (K : PySem.W.Frag) : Bool := supB P K "Lost" "within" && (supB P K "Torn" "ways" && (oneB K "Lost" true "within" && oneB K "Torn" false "ways"))
/-! ### the head's hook -/
def clss : List Str := ["RingError", "InvalidPaper", "PaperError", "ShelfError", "NotUsable", "Lost", "Barred", "Torn"]
def defD (q : Str × Stmt) : He.DefD := ⟨(q.1, none), q.1, q.1, defArgs q.2, defBody q.2, defScope q.2, [], []⟩
def dWant : He.DefD := ⟨("want", none), "want", "want", defArgs s_want, defBody s_want, defScope s_want, [.int (-1)], []⟩
def dPlace : He.DefD := ⟨("want_place", none), "want_place", "want_place", defArgs s_want_place, defBody s_want_place, defScope s_want_place, [.str "place"], []⟩
def fnD : List He.DefD := dWant :: dPlace :: fns.map defD
def faD : List He.Fa := .glo "want" :: .glo "want_place" :: .free "super" :: (fns.map fun q => .glo q.1) ++ (bls.map .free ++ clss.map .glo)
def tfD : List He.Defn := [("_law_is_filled_right", none)]
/-- what is followed: values of dicts, code, cells, a class's names -/
def refsS (o : Obj) : List Addr := match o.data with
  | .dict es _ => es.toList.flatMap fun e => He.refV e.val
  | .func fd => He.refV fd.code ++ (He.refV fd.defaults ++ (He.refV fd.kwdefaults ++ fd.closure.map (·.2)))
  | .cls cd => [cd.ns]
  | _ => []
def nextS (g : Addr → Option Obj) (as : List Addr) : List Addr := as.flatMap fun a => match g a with
  | some o => refsS o
  | none => []
def asS (g : Addr → Option Obj) : Nat → List Addr → List Addr
  | 0, as => as
  | n + 1, as => as ++ asS g n (nextS g as)
def kD (g : Addr → Option Obj) : PySem.W.Frag := He.frT g (cStatics :: asS g 4 [mainGlobals])
abbrev AlS : Type := He.AlD × Bool × List InW
def obsS (P : Program) (g : Addr → Option Obj) : AlS := (He.obsD faD fnD (kD g), exB P (kD g) && He.tabsB g tfD (kD g), [initW (kD g) "Lost", initW (kD g) "Torn"])
def valS : AlS := (He.valD fnD, true, [initV s_Lost_init, initV s_Torn_init])
structure SaysS (P : Program) (h : Heap) (K : PySem.W.Frag) : Prop where
  d : He.SaysD faD fnD K
  ex : exB P K = true
  il : initW K "Lost" = initV s_Lost_init
  it : initW K "Torn" = initV s_Torn_init
  hd : ∀ p ∈ tfD, PySem.W.codeHdIn K (He.cT K p).1 (He.cT K p).2 = true
  out : ∀ p ∈ tfD, K.lookup (He.cT K p).2 = none
  empty : ∀ p ∈ tfD, h.get? (He.cT K p).2 = some { cls := .none, data := .fields #[] }
theorem saysS_of {P : Program} {h : Heap} (e : obsS P h.get? = valS) : SaysS P h (kD h.get?) := by
  have e1 : He.obsD faD fnD (kD h.get?) = He.valD fnD := congrArg (fun z : AlS => z.1) e
  have e2 : (exB P (kD h.get?) && He.tabsB h.get? tfD (kD h.get?)) = true := congrArg (fun z : AlS => z.2.1) e
  have e3 : [initW (kD h.get?) "Lost", initW (kD h.get?) "Torn"] = [initV s_Lost_init, initV s_Torn_init] := congrArg (fun z : AlS => z.2.2) e
  obtain ⟨h1, h2⟩ := ba e2
  have key : ∀ p ∈ tfD, PySem.W.codeHdIn (kD h.get?) (He.cT (kD h.get?) p).1 (He.cT (kD h.get?) p).2 = true ∧ ∃ o, h.get? (He.cT (kD h.get?) p).2 = some o ∧ He.emptyTab o = true := fun p hp => by
    obtain ⟨h3, h4⟩ := ba
          (List.all_eq_true.mp h2 p hp)
    refine ⟨h3, ?_⟩
    cases q : h.get? (He.cT (kD h.get?) p).2 with
    | none =>
      rw [q] at h4
      cases h4
    | some o =>
      rw [q] at h4
      exact ⟨o, rfl, h4⟩
  injection e3 with a1 a2
  injection a2 with a2 _
  exact ⟨e1, h1, a1, a2, fun p hp => (key p hp).1, fun p hp => by
    obtain ⟨_, o, q,
          z⟩ := key p hp
    exact He.frT_none q z, fun p hp => by
    obtain ⟨_, o, q,
          z⟩ := key p hp
    rw [q, He.emptyTab_eq z]⟩
def hkS (P : Program) : PySem.W.Hook where
  α := AlS
  obs := fun s => obsS P s.heap.get?
  val := fun _ => valS
  says := fun _ h => ∃ K : PySem.W.Frag, K.In h ∧ SaysS P h K
  of := fun _ _ e => ⟨_, He.frT_in, saysS_of e⟩
  keeps := fun _ _ _ ⟨K, hK, c⟩ k => ⟨K, PySem.W.Frag.In.keeps hK k, ⟨c.d, c.ex, c.il, c.it, c.hd, c.out, fun p hp => k _ _ (c.empty p hp)⟩⟩
theorem obsS_eq {P : Program} {g : Addr → Option Obj} {s : Shared} (h : ∀ a, g a = s.heap.get? a) : obsS P g = (hkS P).obs s := by
  have e : g =
        s.heap.get? := funext h
  rw [e] <;> rfl
end Sh


set_option Elab.async false
set_option linter.all false
set_option maxRecDepth 100000
set_option maxHeartbeats 0
set_option autoImplicit false
/-! H2: the head's runs -/
namespace Sh
open PySem PySem.Spec
      PyProof.Rows L2
def lo0 : List Str := ["is_integer", "is_number", "is_index", "is_size", "is_tuple_of", "is_stretch", "lead_of", "inverse_in", "times_by", "added_by", "less_times", "rest_by", "led_row", "reduced_by", "rank_among", "unit_by", "weights_in", "check_for", "checks_by", "column_in", "rank_at", "ring_places", "rank_along", "rank_in", "RingError", "PaperError", "ShelfError", "InvalidPaper", "NotUsable", "Lost"]
def lo1 : List Str := ["Torn", "Barred", "want", "want_place", "want_stretch", "lands_by", "balls_by", "thrown_by", "open_at", "is_digit_or_none", "lost_places", "are_told", "products_sum", "words_on", "check_against", "filled", "open_words", "holds_any", "mends_burst", "most_burst", "most_window", "open_rank", "next_ones", "ones_before", "chain_of", "_law_feed", "_law_same", "_law_pick", "_law_draw", "_law_heard"]
def lo2 : List Str := ["_law_throws", "_law_balls", "_law_rank", "_law_settled", "_law_less", "_law_book", "_law_first", "_law_back", "_law_open", "_law_places", "_law_columns_rank", "_law_pattern", "_law_bridged_book", "_law_are_stretches_right", "_law_most", "_law_are_menders_right", "_law_are_throws_right", "_law_word", "_law_sum", "_law_is_torn_right", "_law_is_word", "_law_is_lost_right", "_law_filled", "_law_is_filled_right", "_law_is_right", "_law_are_books_right"]
def lo : List Str := lo0 ++ lo1 ++ lo2
abbrev RR : PySem.W.OpenRow := PySem.W.OpenLaw.row PySem.Challenge.rw_throwshelves_k25_whole_bursts_and_losses
abbrev PP : Program := PySem.Challenge.rw_throwshelves_k25_whole_bursts_and_losses.prog
abbrev vw : Program := PySem.W.view RR.prog [98]
def obE (s : PySem.W.SharedT) : AlS := obsS PP (HandSHeadRun.getT s)
theorem obE_eq (s : PySem.W.SharedT) : obE s = (hkS PP).obs s.abs := obsS_eq (HandSHeadRun.getT_eq s)
theorem runE (w : World) : HandSHeadRun.RunEq RR vw (hkS PP) obE 8000 lo w := by
  intro os
  kernel_rfl
end Sh


set_option Elab.async false
set_option linter.all false
set_option maxRecDepth 100000
set_option maxHeartbeats 0
set_option autoImplicit false
/-! H3: the end -/
namespace Sh
open PySem PySem.Spec
      PyProof.Rows L2
open He (ga ma fAd ba)
def pI : He.Defn := ("_law_is_filled_right", none)
theorem lib_of {K : PySem.W.Frag} {h : Heap} {mg : Str → Option Value} (X : K.In h) (G : h.Ns mainGlobals mg) (c : He.SaysD faD fnD K) : Lib K mg fns bls := by
  refine ⟨fun i x st hi => ?_, fun x hx => ?_, fun i x st dvs hi => ?_⟩
  · have hm := List.mem_of_getElem? hi
    obtain ⟨fd, F⟩ := c.defs (d := defD (x, st)) (List.mem_cons_of_mem _ (List.mem_cons_of_mem _ (List.mem_map.mpr ⟨_, hm, rfl⟩)))
    exact ⟨_, fd, F, He.glo_ok X G (c.facts (f := .glo x) (List.mem_cons_of_mem _ (List.mem_cons_of_mem _ (List.mem_cons_of_mem _ (List.mem_append_left _ (List.mem_map.mpr ⟨_, hm, rfl⟩))))))⟩
  · exact He.free_ok X G (c.facts (f := .free x) (List.mem_cons_of_mem _ (List.mem_cons_of_mem _ (List.mem_cons_of_mem _ (List.mem_append_right _ (List.mem_append_left _ (List.mem_map.mpr ⟨_, hx, rfl⟩)))))))
  · match i, hi with
    | 0, hi =>
      cases hi
      obtain ⟨fd, F⟩ := c.defs (d := dWant) List.mem_cons_self
      exact ⟨_, fd, F, He.glo_ok X G (c.facts (f := .glo "want") List.mem_cons_self)⟩
    | 1, hi =>
      cases hi
      obtain ⟨fd, F⟩ := c.defs (d := dPlace) (List.mem_cons_of_mem _ List.mem_cons_self)
      exact ⟨_, fd, F, He.glo_ok X G (c.facts (f := .glo "want_place") (List.mem_cons_of_mem _ List.mem_cons_self))⟩
theorem cls_of {K : PySem.W.Frag} {h : Heap} {mg : Str → Option Value} (X : K.In h) (G : h.Ns mainGlobals mg) (c : He.SaysD faD fnD K) {x : Str} (hx : x ∈ clss) : mg x = some (.ref (ga K x)) :=
  He.glo_ok X G (c.facts (f := .glo x) (List.mem_cons_of_mem _ (List.mem_cons_of_mem _ (List.mem_cons_of_mem _ (List.mem_append_right _ (List.mem_append_right _ (List.mem_map.mpr ⟨_, hx, rfl⟩)))))))
theorem at_law {w : World} {K : PySem.W.Frag} {h : Heap} {mg : Str → Option Value} {fa : Addr} (X : K.In h) (G : h.Ns mainGlobals mg) (hfa : mg ("law" : Str) = some (.ref fa)) (c : SaysS PP h K) : LawAtG PySem.Challenge.rw_throwshelves_k25_whole_bursts_and_losses w K 12 63 "_law_script" mg fa h := by
  have L := lib_of X G c.d
  have gS : mg ("super" : Str) = none := He.free_ok X G (c.d.facts (f := .free "super") (List.mem_cons_of_mem _ (List.mem_cons_of_mem _ List.mem_cons_self)))
  obtain ⟨e1, e⟩ := ba c.ex
  obtain ⟨e2, e⟩ := ba e
  obtain ⟨e3, e4⟩ := ba e
  have tS : (PP.main.scope.names.lookup ("super" : Str)).isSome = false := by decide +kernel
  obtain ⟨fd1, S1, s1, s2⟩ := supB_ok e1 c.il tS
  obtain ⟨fd2, S2, s3, s4⟩ := supB_ok e2 c.it tS
  have EL : ExcC PP K mg "Lost" "within" s_Lost_init (ga K "Lost") := ⟨⟨_, _, S1, s1, s2⟩, cls_of X G c.d (by decide), gS⟩
  have ET : ExcC PP K mg "Torn" "ways" s_Torn_init (ga K "Torn") := ⟨⟨_, _, S2, s3, s4⟩, cls_of X G c.d (by decide), gS⟩
  have A : HK K mg (ga K "RingError") (ga K "InvalidPaper") (ga K "PaperError") (ga K "ShelfError") (ga K "NotUsable") (ga K "Lost") (ga K "Barred") (ga K "Torn") :=
    ⟨cls_of X G c.d (by decide), cls_of X G c.d (by decide), cls_of X G c.d (by decide), cls_of X G c.d (by decide), cls_of X G c.d (by decide), cls_of X G c.d (by decide), cls_of X G c.d (by decide), cls_of X G c.d (by decide), L.bl _ (by decide), oneB_ok e3, oneB_ok e4⟩
  obtain ⟨fI, fdI, FI, mI⟩ := L.fn 75 _ _ rfl
  have eI : fI = ga K "_law_is_filled_right" := by
    have z := mI.symm.trans (He.glo_ok X G (c.d.facts (f := .glo "_law_is_filled_right") (List.mem_cons_of_mem _ (List.mem_cons_of_mem _ (List.mem_cons_of_mem _ (List.mem_append_left _ (List.mem_map.mpr ⟨_, List.mem_of_getElem? (show fns[75]? = some _ from rfl), rfl⟩)))))))
    cases z
    rfl
  subst eI
  obtain ⟨fL, fdL, FL, mL⟩ := L.fn 78 _ _ rfl
  have eL : fL = fa := by
    have z := mL.symm.trans hfa
    cases z
    rfl
  subst eL
  have cI : fdI.code = .ref (He.cT K pI).1 := by
    obtain ⟨oc, od, dV, kV, doc, pm, an, cdv, ct, osl, ee, lk, hcd, _, _⟩ := FI.ex
    subst ee
    obtain ⟨cc, rfl⟩ := He.codeIn_ref hcd
    have := He.codeOf_eq (K := K) (p := pI) lk rfl
    show Value.ref cc = .ref (He.codeOf K pI)
    rw [this]
  have b := FunD.bindsA (ps := ["_law_script"]) FL fun _ _ _ _ _ _ us hl => match us, hl with | [_], _ => rfl
  refine ⟨fdL, [He.cT K pI], spLaw K [((He.cT K pI).2, "_law_is_filled_right.<locals>." ++ "<lambda>")], fun p hp => ?_, fun p hp => ?_, fun p hp => ?_, fun s v => b s [v] rfl, fun H a ns _ hT hS => ⟨a, ns, rfl, hS, fun z hz => ?_, fun _ => rfl⟩, fun base _ _ TB => ?_⟩
  · rw [List.mem_singleton.mp hp]; exact c.empty pI List.mem_cons_self
  · rw [List.mem_singleton.mp hp]; exact c.out pI List.mem_cons_self
  · rw [List.mem_singleton.mp hp]; exact PySem.W.codeHd_of_K X (c.hd pI List.mem_cons_self)
  · rw [List.mem_singleton.mp hz]; exact hT _ List.mem_cons_self
  · exact fn_law L (ok_L_abr L (ok_L_isr L (ok_L_isf L EL ET A FI mI cI (TB _ List.mem_cons_self)))) FL
end Sh
open PySem PySem.W
      PySem.Calls PyProof.Rows
theorem PySem.Challenge.cw_throwshelves_k25_whole_bursts_and_losses_holds : PySem.Challenge.rw_throwshelves_k25_whole_bursts_and_losses.Holds := by
  w_on; o_law
  refine HandSHeadRun.head_any (r := OpenLaw.row PySem.Challenge.rw_throwshelves_k25_whole_bursts_and_losses) (q := Sh.vw) (H := Sh.hkS Sh.PP) (ob := Sh.obE) (M := 8000) (loose := Sh.lo) (d := HandSHeadRun.topDef (OpenLaw.row PySem.Challenge.rw_throwshelves_k25_whole_bursts_and_losses).prog 98) (kwd := []) Sh.obE_eq
    (by kernel_rfl) (fun s => by kernel_rfl) Sh.runE (by kernel_rfl) (by kernel_rfl) (by kernel_rfl) (by rfl) (by first | assumption | decide +kernel) (by decide +kernel) ⟨rfl, rfl, rfl, rfl, rfl, by decide +kernel⟩ ?hw ?hc
  case hw => w_witness2
  case hc =>
    refine Sh.walk_ofG (l := PySem.Challenge.rw_throwshelves_k25_whole_bursts_and_losses) (n := 63) (k := 12) (x := "_law_script") rfl (by decide) (by kernel_rfl) ⟨rfl, by decide, by decide⟩ ?F
    intro w mg fa h Y G hmg0
    obtain ⟨K, KX, c⟩ := Y
    have hmg : mg ("law" : PySem.Str)
          = some (.ref fa) := by
      have e : (HandSHeadRun.topDef (OpenLaw.row PySem.Challenge.rw_throwshelves_k25_whole_bursts_and_losses).prog 98).name = ("law" : PySem.Str) := by kernel_rfl
      rw [← e]
      exact hmg0
    exact ⟨K, KX, Sh.at_law KX G hmg c⟩

