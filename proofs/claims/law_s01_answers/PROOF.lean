import PyProof.Rows.All
import Wide.All
import OpenK.AllK
import Wide.FinOn
import HandS.ForSpec
import HandS.ForMost
import HandS.Defaults
import HandS.HeadHook1
import HandS.HeadHook2
import PySem.Challenge.RW_partlibrary_s01_answers
import KE.KDictZip
import KE.KDictItemsList
import KE.DataMinMax
import KE.SortData
import HandS.Evl
import HandS.Walk
import HandS.CallLocal
import HandS.SortRule
import HandS.ListItems
import KE.KStateDown
import Lean
import KE.OsGo
import KE.HD0
import KE.HD1
import KE.HD2
import KE.HD3
import KE.HD4
import PyFlatLaws
set_option Elab.async false
set_option linter.all false
set_option maxRecDepth 100000
set_option maxHeartbeats 8000000
namespace Pl
open PySem PySem.Spec PyProof.Rows L2
def top (i : Nat) : Stmt := PySem.Challenge.pw_partlibrary_s01_answers.main.body.getD i (.Pass ⟨0, 0, 0, 0⟩)
abbrev s_init_Work : Stmt := inClass (top 18) 0
abbrev s_init_Kit : Stmt := inClass (top 19) 0
abbrev s_init_Hiring : Stmt := inClass (top 20) 0
abbrev s_init_Library : Stmt := inClass (top 21) 0
abbrev s_are_parts : Stmt := top 22
abbrev s_there_of : Stmt := top 23
abbrev s_last_day : Stmt := top 25
abbrev s_is_on : Stmt := top 26
abbrev s_over_day : Stmt := top 27
abbrev s_has_on : Stmt := top 28
abbrev s_late_by : Stmt := top 29
abbrev s_is_out : Stmt := top 30
abbrev s_others_of : Stmt := top 31
abbrev s_free_on : Stmt := top 32
abbrev s_least_free : Stmt := top 33
abbrev s_are_enough : Stmt := top 34
abbrev s_lack_of : Stmt := top 36
abbrev s_extra_of : Stmt := top 37
abbrev s_is_kit_free : Stmt := top 38
abbrev s_end_of : Stmt := top 39
abbrev s_does : Stmt := top 40
abbrev s_free_for : Stmt := top 41
abbrev s_that_do : Stmt := top 42
abbrev s_rank_of : Stmt := top 43
abbrev s_best_of : Stmt := top 44
abbrev s_are_days_right : Stmt := top 50
abbrev s_hire : Stmt := top 51
abbrev s_cancel : Stmt := top 52
abbrev s_swap : Stmt := top 53
abbrev s_is_in_way : Stmt := top 54
abbrev s_is_any_in_way : Stmt := top 55
abbrev s_longer : Stmt := top 56
abbrev s_slack : Stmt := top 57
abbrev s_begin : Stmt := top 68
abbrev s_put_work : Stmt := top 69
abbrev s_put_kit : Stmt := top 70
abbrev s_put_loose : Stmt := top 71
abbrev s_why_not_sent : Stmt := top 74
abbrev s_sent_of : Stmt := top 75
abbrev s_send : Stmt := top 76
abbrev s_are_winds : Stmt := top 77
abbrev s_are_lost : Stmt := top 78
abbrev s_bill_of : Stmt := top 79
abbrev s_lose_strings : Stmt := top 80
abbrev s_back : Stmt := top 81
abbrev s_replace : Stmt := top 82
abbrev s_rub : Stmt := top 83
abbrev s_go_on : Stmt := top 84
abbrev s_why_not_asked : Stmt := top 87
abbrev s_some_that_do : Stmt := top 88
abbrev s_could : Stmt := top 89
abbrev s_choices : Stmt := top 90
abbrev s_having_on : Stmt := top 91
abbrev s_most : Stmt := top 92
abbrev s_free : Stmt := top 93
abbrev s_lacks : Stmt := top 94
abbrev s_plan : Stmt := top 95
abbrev s_due : Stmt := top 96
abbrev s_lost : Stmt := top 97
abbrev s_torn : Stmt := top 98
abbrev s_has : Stmt := top 99
abbrev s_bill : Stmt := top 100
abbrev s_late : Stmt := top 101
abbrev s_shelf : Stmt := top 102
abbrev s_look : Stmt := top 103
abbrev s_marks : Stmt := top 104
abbrev s_sums : Stmt := top 105
abbrev s_state : Stmt := top 106
abbrev s_rows_at : Stmt := top 112
abbrev s_answer_to : Stmt := top 113
abbrev s_answers : Stmt := top 114
abbrev FnP (K : PySem.W.Frag) (x q : Str) (st : Stmt) (f : Addr) (fd : FuncData) : Prop := FunD K x q (defArgs st) (defBody st) (defScope st) [] [] f fd
end Pl

/-! ### list(enumerate(xs)): the pairs in new tuples -/
namespace PlE
open PySem PySem.Calls PyProof.Rows PySem.W PySem.Spec
theorem no_len : typeLookup (.type "enumerate") "__len__" = pure none := by rw [typeLookup_type, builtinLookup_eq_fast]; kernel_rfl
theorem no_hint : typeLookup (.type "enumerate") "__length_hint__" = pure none := by rw [typeLookup_type, builtinLookup_eq_fast]; kernel_rfl
/-- the enumerate at turn i: nothing out, or a tuple out that is held -/
def EnSt (h : Heap) (e it l L : Addr) (i : Nat) : Prop :=
  h.IsListIter it l i ∧ ((∃ old, IsEnum h e it i old) ∨ ∃ old T f oT, IsEnumHeld h e it i old T f ∧ h.get? T = some oT ∧ T ≠ e ∧ T ≠ it ∧ T ≠ L)
/-- the addresses ts hold the pairs -/
structure EnG (its : Array Value) (lo : Addr) (h : Heap) (ts : List Addr) : Prop where
  rise : ts.Pairwise (· < ·)
  above : ∀ a ∈ ts, lo < a
  pairs : ∀ (j : Nat) (a : Addr), ts[j]? = some a → ∃ (ixj : j < its.size) (t : Tok), h.get? a = some { cls := .type "tuple", data := .seq #[.int (j : Int) t, its[j]] }
theorem EnG.there {its : Array Value} {lo : Addr} {h : Heap} {ts : List Addr} (g : EnG its lo h ts) {a : Addr} (mem : a ∈ ts) : a < h.objs.size := by
  obtain ⟨j, ixj⟩ := List.mem_iff_getElem?.mp mem
  obtain ⟨_, _, e⟩ := g.pairs j a ixj
  exact Heap.lt_size e
section
variable {pr : Program} {wd : World} {A : Around} {E : Value → Shared → Prop} {s : Shared}
theorem en_item {e it l L : Addr} {i : Nat} {its : Array Value} {Qq : Option Value → Shared → Prop} (turn : EnSt s.heap e it l L i) (cS : L < s.heap.objs.size) (hel : e ≠ it) (hle : l ≠ e) (hli : l ≠ it)
    (hl : s.heap.IsList l its) (more : i < its.size)
    (hQ : ∀ h' tk, EnSt h' e it l L (i + 1) → (∃ t, h'.get? s.heap.objs.size = some { cls := .type "tuple", data := .seq #[.int (i : Int) t, its[i]] }) → h'.objs.size = s.heap.objs.size + 1 →
      (∀ b o, b ≠ e → b ≠ it → s.heap.get? b = some o → h'.get? b = some o) → Qq (some (.ref s.heap.objs.size)) { s with heap := h', toks := tk }) :
    wpAny (model pr wd) A (pyNext (.ref e)) Qq E s := by
  obtain ⟨hit, turn⟩ := turn
  have hx : its[i]? = some its[i] := Array.getElem?_eq_getElem more
  have itlt : it < s.heap.objs.size := by obtain ⟨_, x, _⟩ := hit; exact Heap.lt_size x
  rcases turn with ⟨old, he⟩ | ⟨old, T, f, oT, he, hT, h1, h2, h3⟩
  · have helt : e < s.heap.objs.size := Heap.lt_size he
    refine wpAny_pyNext_enum_item he hit hl hx hel fun h' ho hit' hT asz hk => ?_
    exact hQ h' _ ⟨hit', .inr ⟨_, s.heap.objs.size, false, _, ho, hT, Nat.ne_of_gt helt, Nat.ne_of_gt itlt, Nat.ne_of_gt cS⟩⟩ ⟨_, hT⟩ asz hk
  · refine wpAny_pyNext_enum_item_held he hT h1 h2 hit hl hx hel fun h' ho hit' hT' asz hk => ?_
    exact hQ h' _ ⟨hit', .inr ⟨_, T, true, oT, ho, hk T oT h1 h2 hT, h1, h2, h3⟩⟩ ⟨_, hT'⟩ asz hk
theorem en_done {e it l L : Addr} {i : Nat} {its : Array Value} {Qq : Option Value → Shared → Prop} (hh : A.handled = none) (turn : EnSt s.heap e it l L i) (hl : s.heap.IsList l its) (hge : its.size ≤ i)
    (hQ : ∀ h', Heap.ExtBut it s.heap h' → Qq none { s with heap := h' }) : wpAny (model pr wd) A (pyNext (.ref e)) Qq E s := by
  obtain ⟨hit, turn⟩ := turn
  have hx : its[i]? = none := Array.getElem?_eq_none hge
  rcases turn with ⟨old, he⟩ | ⟨old, T, f, oT, he, hT, h1, h2, h3⟩
  · exact wpAny_pyNext_enum_end hh he hit hl hx hQ
  · exact wpAny_pyNext_enum_end_held hh he hit hl hx hQ
theorem EnSt.keep {h h' : Heap} {e it l L : Addr} {i : Nat} (x : EnSt h e it l L i) (hSe : L ≠ e) (hSi : L ≠ it) (k : ∀ b o, b ≠ L → h.get? b = some o → h'.get? b = some o) : EnSt h' e it l L i := by
  obtain ⟨hit, turn⟩ := x
  refine ⟨hit.at fun o y => k it o (Ne.symm hSi) y, ?_⟩
  rcases turn with ⟨old, he⟩ | ⟨old, T, f, oT, he, hT, h1, h2, h3⟩
  · exact .inl ⟨old, k _ _ (Ne.symm hSe) he⟩
  · exact .inr ⟨old, T, f, oT, k _ _ (Ne.symm hSe) he, k _ _ h3 hT, h1, h2, h3⟩
end
section
variable {pr : Program} {wd : World} {A : Around} {s : Shared} {Rr : Result → Shared → Prop} {its : Array Value}
theorem en_loop {L G it l : Addr} (hh : A.handled = none) (hIS : G < L) (hSt : L ≠ it) (hSl : l ≠ L) (hel : G ≠ it) (hle : l ≠ G) (hli : l ≠ it) (hn : its.size ≤ sizeLine) (res : Value) {hp0 : Heap}
    (hfin : ∀ h' tk ac c ts, (∀ b o, b ≠ L → b ≠ G → b ≠ it → hp0.get? b = some o → h'.get? b = some o) → h'.get? L = some { cls := .type "list", dict := none, data := .seq ac c, slots := #[] } → ts.length = its.size → EnG its L h' ts →
      ac.toList = ts.map Value.ref → Rr (.ok (.ret res)) { s with heap := h', toks := tk }) :
    ∀ (k i : Nat) (h : Heap) (tk c : Nat) (ac : Array Value) (ts : List Addr), its.size - i = k → i ≤ its.size → EnSt h G it l L i → h.IsList l its → (∀ b o, b ≠ L → b ≠ G → b ≠ it → hp0.get? b = some o → h.get? b = some o) →
      h.get? L = some { cls := .type "list", dict := none, data := .seq ac c, slots := #[] } → ac.toList = ts.map Value.ref → ts.length = i → EnG its L h ts → it < L →
      codeAny (model pr wd) A (.builtin "list.extend.loop" ⟨[.ref L, .ref G, res], []⟩) Rr { s with heap := h, toks := tk } := by
  have hne : L ≠ G := Nat.ne_of_gt hIS
  intro k
  induction k with
  | zero =>
    intro i h tk c ac ts hk hi turn hL kept cS lay cnt pg itS
    have hin : i = its.size := by omega
    refine codeAny_builtin PySem.F.entry_extend_loop ?_; rw [Around.under_plainId PySem.F.plain_extend_loop _]; show wpAny _ A.in1 (pyNext (.ref G) >>= _) _ _ _
    refine wpAny_bind (en_done (s := { s with heap := h, toks := tk }) (A := A.in1) hh turn hL (by omega) fun h' he => ?_)
    refine wpAny_pure (hfin h' tk ac c ts (fun b o h1 h2 h3 e => he b o h3 (kept b o h1 h2 h3 e)) (he L _ hSt cS) (by omega) ⟨pg.rise, pg.above, fun j a ixj => ?_⟩ lay)
    obtain ⟨hj', t, e3⟩ := pg.pairs j a ixj
    exact ⟨hj', t, he a _ (Nat.ne_of_gt (Nat.lt_trans itS (pg.above a (List.mem_of_getElem? ixj)))) e3⟩
  | succ k ih =>
    intro i h tk c ac ts hk hi turn hL kept cS lay cnt pg itS
    have more : i < its.size := by omega
    have asz : ac.size = i := by rw [← Array.length_toList, lay, List.length_map, cnt]
    refine codeAny_builtin PySem.F.entry_extend_loop ?_; rw [Around.under_plainId PySem.F.plain_extend_loop _]; show wpAny _ A.in1 (pyNext (.ref G) >>= _) _ _ _
    refine wpAny_bind (en_item (s := { s with heap := h, toks := tk }) (L := L) turn (Heap.lt_size cS) hel hle hli hL more fun h' tk' hst' ht hz hkp => ?_)
    dsimp only at ht hz hkp ⊢
    have cS1 := hkp L _ hne hSt cS
    have past : ∀ b o, b ≠ L → h'.get? b = some o → (h'.update L (Obj.mapSeq (·.push (Value.ref h.objs.size)))).get? b = some o := fun b o lob e => (Heap.get?_update_other _ _ (Ne.symm lob)).trans e
    have hSl' : L < h.objs.size := Heap.lt_size cS
    show wpAny _ A.in1 (updateSeq L (·.push (Value.ref h.objs.size)) >>= _) _ _ _
    refine wpAny_bind ?_
    refine wpAny_updateSeq cS1 rfl (wpAny_pure ⟨plainId_quiet PySem.F.plain_extend_loop _, ih (i + 1) _ _ _ (ac.push (Value.ref h.objs.size)) (ts ++ [h.objs.size]) (by omega) more (hst'.keep hne hSt past) (hL.at fun o e => past l o hSl (hkp l o hle hli e))
      (fun b o h1 h2 h3 e => past b o h1 (hkp b o h2 h3 (kept b o h1 h2 h3 e))) (Heap.get?_update_self _ cS1 rfl) (by rw [Array.toList_push, lay, List.map_append]; rfl) (by rw [List.length_append, cnt]; rfl) ⟨?_, ?_, ?_⟩ itS⟩) (by rw [asz]; omega) (by show (ac.push (Value.ref h.objs.size)).size ≤ sizeLine + 1; rw [Array.size_push, asz]; omega)
    · refine List.pairwise_append.mpr ⟨pg.rise, List.pairwise_singleton _ _, fun a mem b lob => ?_⟩
      rw [List.mem_singleton.mp lob]
      exact pg.there mem
    · intro a mem
      rcases List.mem_append.mp mem with mem | mem
      · exact pg.above a mem
      · rw [List.mem_singleton.mp mem]; exact hSl'
    · intro j b ixj
      rcases Nat.lt_trichotomy j ts.length with h1 | h1 | h1
      · rw [List.getElem?_append_left h1] at ixj; obtain ⟨hj', t, e3⟩ := pg.pairs j b ixj
        have lob := pg.above b (List.mem_of_getElem? ixj)
        exact ⟨hj', t, past b _ (Nat.ne_of_gt lob) (hkp b _ (Nat.ne_of_gt (Nat.lt_trans hIS lob)) (Nat.ne_of_gt (Nat.lt_trans itS lob)) e3)⟩
      · subst h1
        have lob : h.objs.size = b := by simpa using ixj
        subst lob
        obtain ⟨t, ht⟩ := ht
        exact ⟨by omega, t, by subst cnt; exact past _ _ (Nat.ne_of_gt hSl') ht⟩
      · have off : (ts ++ [h.objs.size])[j]? = none := List.getElem?_eq_none (by rw [List.length_append, List.length_singleton]; omega)
        rw [off] at ixj; cases ixj
end
section
variable {pr : Program} {wd : World} {A : Around} {E : Value → Shared → Prop} {s : Shared} {e it l : Addr} {its : Array Value}
theorem en_extend {Rr : Result → Shared → Prop} (hh : A.handled = none) (L : Addr) (turn : EnSt s.heap e it l L 0) (hl : s.heap.IsList l its) (heS : e < L) (hiS : it < L) (hlS : l ≠ L) (hel : e ≠ it) (hle : l ≠ e) (hli : l ≠ it) (res : Value) (c₀ : Nat) (cS : s.heap.get? L = some { cls := .type "list", data := .seq #[] c₀ })
    (hfin : ∀ h' tk ac c ts, (∀ b o, b ≠ L → b ≠ e → b ≠ it → s.heap.get? b = some o → h'.get? b = some o) → h'.get? L = some { cls := .type "list", dict := none, data := .seq ac c, slots := #[] } → ts.length = its.size → EnG its L h' ts →
      ac.toList = ts.map Value.ref → Rr (.ok (.ret res)) { s with heap := h', toks := tk }) (hn : its.size ≤ sizeLine) :
    wpAny (model pr wd) A.in1 (Builtin.List.listExtendWith (.ref L) (.ref e) res)
      (fun o s' => match o with | .done v => Rr (.ok v) s' | .again k' => k'.quiet = true ∧ codeAny (model pr wd) A k' Rr s') (fun x s' => Rr (.error x) s') s := by
  have hSe : L ≠ e := Nat.ne_of_gt heS
  have hSi : L ≠ it := Nat.ne_of_gt hiS
  have hT : s.TypeIs (.ref e) "enumerate" := by
    rcases turn.2 with ⟨old, he⟩ | ⟨old, T, f, oT, he, _⟩
    · exact ⟨_, he, rfl⟩
    · exact ⟨_, he, rfl⟩
  have hI : ∃ old, IsEnum s.heap e it (0 : Nat) old ∨ True := ⟨.none, .inr trivial⟩
  unfold Builtin.List.listExtendWith; refine wpAny_bind (wpAny_typeOf hT ?_)
  have h1 : Builtin.List.listSameRef (.ref L) (.ref e) = false := by simp [Builtin.List.listSameRef, hSe]
  have h2 : (Value.type "enumerate" == Value.type "list") = false := by decide
  have h3 : (Value.type "enumerate" == Value.type "tuple") = false := by decide
  simp only [h3, h2, h1, Bool.or_false, Bool.false_eq_true, if_false]
  refine wpAny_bind (wpAny_pyIter_slot hT F.slot_enumerate_iter (wpAny_call_entry F.slot_enumerate_iter hT F.entry_enumerate_iter ?_ (F.args_enumerate_iter_1 _)))
  show wpAny _ _ (ret (.ref e)) _ _ s; refine wpAny_pure ⟨_, rfl, "enumerate", _, hT, F.slot_enumerate_next.lookup, ?_⟩
  refine wpAny_bind (wpAny_holding ?_); unfold Builtin.List.listLengthHint
  refine wpAny_bind (wpAny_specialOf hT no_len ?_)
  show wpAny _ A.in1 (specialOf (Value.ref e) (Str.ofString "__length_hint__") >>= _) _ _ _
  refine wpAny_bind (wpAny_specialOf hT no_hint ?_)
  refine wpAny_pure ?_
  show wpAny _ A.in1 (rule "list.extend.makes-room" >>= fun _ => Builtin.List.listTouch (.ref L) >>= fun _ =>
    again (.builtin "list.extend.loop" ⟨[.ref L, .ref e, res], []⟩)) _ _ _
  refine wpAny_bind (wpAny_rule ?_); refine wpAny_bind ?_
  show wpAny _ A.in1 (updateSeq L (·.push .none) >>= fun _ => updateSeq L (·.pop)) _ _ _; refine wpAny_bind (wpAny_updateSeq cS rfl ?_)
  have cS2 := Heap.get?_update_self (Obj.mapSeq (·.push Value.none)) cS rfl
  refine wpAny_updateSeq (hz := by seq_fits) cS2 rfl ?_
  have cS3 := Heap.get?_update_self (Obj.mapSeq (·.pop)) cS2 rfl
  have side : ∀ b o, b ≠ L → s.heap.get? b = some o → ((s.heap.update L (Obj.mapSeq (·.push Value.none))).update L (Obj.mapSeq (·.pop))).get? b = some o := fun b o lob e =>
    (Heap.get?_update_other _ _ (Ne.symm lob)).trans ((Heap.get?_update_other _ _ (Ne.symm lob)).trans e)
  refine wpAny_pure ⟨plainId_quiet PySem.F.plain_extend_loop _, ?_⟩
  exact en_loop (its := its) (s := s) (hp0 := s.heap) hh heS hSi hlS hel hle hli hn res hfin its.size 0 _ s.toks _ #[] [] (Nat.sub_zero _) (Nat.zero_le _) (turn.keep hSe hSi side) (hl.at fun o e => side l o hlS e) (fun b o lob _ _ e => side b o lob e) cS3 rfl rfl
      ⟨List.Pairwise.nil, (fun _ mem => nomatch mem), (fun j a ixj => by simp at ixj)⟩ hiS
theorem en_init {Rr : Result → Shared → Prop} (hh : A.handled = none) (L : Addr) (turn : EnSt s.heap e it l L 0) (hl : s.heap.IsList l its) (heS : e < L) (hiS : it < L) (hlS : l ≠ L) (hel : e ≠ it) (hle : l ≠ e) (hli : l ≠ it) (cS : s.heap.get? L = some { cls := .type "list", data := .seq #[] })
    (hfin : ∀ h' tk ac c ts, (∀ b o, b ≠ L → b ≠ e → b ≠ it → s.heap.get? b = some o → h'.get? b = some o) → h'.get? L = some { cls := .type "list", dict := none, data := .seq ac c, slots := #[] } → ts.length = its.size → EnG its L h' ts →
      ac.toList = ts.map Value.ref → Rr (.ok (.ret .none)) { s with heap := h', toks := tk }) (hn : its.size ≤ sizeLine) :
    wpAny (model pr wd) A.in1 (Builtin.«list.__init__» ⟨[.ref L, .ref e], []⟩)
      (fun o s' => match o with | .done v => Rr (.ok v) s' | .again k' => k'.quiet = true ∧ codeAny (model pr wd) A k' Rr s') (fun x s' => Rr (.error x) s') s := by
  show wpAny _ _ (do let old ← Builtin.List.listItems (.ref L); Builtin.List.listUpdate (.ref L) (fun _ => #[]); letGo old.toList.reverse; Builtin.List.listExtendWith (.ref L) (.ref e) .none) _ _ s
  refine wpAny_bind ?_
  unfold Builtin.List.listItems
  refine wpAny_bind (wpAny_seqItems cS rfl (wpAny_pure ?_))
  show wpAny _ _ (updateSeq L (fun _ => #[]) >>= fun _ => letGo (#[] : Array Value).toList.reverse >>= fun _ => Builtin.List.listExtendWith (.ref L) (.ref e) .none) _ _ s; refine wpAny_bind (wpAny_updateSeq cS rfl ?_)
  have cS2 := Heap.get?_update_self (Obj.mapSeq (fun _ => (#[] : Array Value))) cS rfl
  have side : ∀ b o, b ≠ L → s.heap.get? b = some o → (s.heap.update L (Obj.mapSeq (fun _ => (#[] : Array Value)))).get? b = some o :=
    fun b o lob e => (Heap.get?_update_other _ _ (Ne.symm lob)).trans e
  refine wpAny_bind (wpAny_letGo ?_); refine en_extend (its := its) (s := { s with heap := s.heap.update L (Obj.mapSeq (fun _ => (#[] : Array Value))) }) hh L (turn.keep (Nat.ne_of_gt heS) (Nat.ne_of_gt hiS) side) (hl.at fun o e => side l o hlS e) heS hiS hlS hel hle hli .none _ cS2 (fun h' tk ac c ts hk cS1 hlen pg lay => ?_) hn
  exact hfin h' tk ac c ts (fun b o lob h2 h3 e => hk b o lob h2 h3 (side b o lob e)) cS1 hlen pg lay
/-- list(enumerate(..)), the enumerate just made over the list at l -/
theorem en_call {Qq : Value → Shared → Prop} (hh : A.handled = none) (he : IsEnum s.heap e it 0 .none) (hit : s.heap.IsListIter it l 0) (hl : s.heap.IsList l its) (hel : e ≠ it) (hle : l ≠ e) (hli : l ≠ it) (hn : its.size ≤ sizeLine)
    (hQ : ∀ h' tk ac c ts, (∀ b o, b ≠ e → b ≠ it → s.heap.get? b = some o → h'.get? b = some o) → h'.get? s.heap.objs.size = some { cls := .type "list", dict := none, data := .seq ac c, slots := #[] } → ts.length = its.size → EnG its s.heap.objs.size h' ts →
      ac.toList = ts.map Value.ref → Qq (.ref s.heap.objs.size) { s with heap := h', toks := tk }) :
    wpAny (model pr wd) A (call (.type "list") [.ref e]) Qq E s := by
  refine callType_codes (Q₁ := fun got s₁ => got = .ref s.heap.objs.size ∧ s₁ = { s with heap := s.heap.push { cls := .type "list", data := .seq #[] } }) PySem.F.called_list (PySem.F.typeCall_list_1 _) PySem.F.entry_list_init
    (code_list_new _ ⟨rfl, rfl⟩) fun obj s₁ hp0 => ?_
  obtain ⟨rfl, rfl⟩ := hp0
  have cS : (s.heap.push { cls := .type "list", data := .seq #[] }).get? s.heap.objs.size = some { cls := .type "list", data := .seq #[] } := Heap.get?_push_size _ rfl
  have past : ∀ b o, s.heap.get? b = some o → (s.heap.push { cls := .type "list", data := .seq #[] }).get? b = some o := fun b o e => Heap.get?_push_of_some _ e
  have h1 : e < s.heap.objs.size := Heap.lt_size he
  have h2 : it < s.heap.objs.size := by obtain ⟨_, x, _⟩ := hit; exact Heap.lt_size x
  have h3 : l < s.heap.objs.size := by obtain ⟨_, x, _⟩ := hl; exact Heap.lt_size x
  refine ⟨⟨_, cS, rfl⟩, PySem.F.args_list_init_2 _ _, en_init (its := its) (A := A.in1) hh _ ⟨hit.at fun o x => past it o x, .inl ⟨.none, past _ _ he⟩⟩ (hl.at fun o x => past l o x) h1 h2 (Nat.ne_of_lt h3) hel hle hli cS (fun h' tk ac c ts hk cS1 hlen pg lay => ?_) hn⟩
  exact ⟨rfl, hQ h' tk ac c ts (fun b o q1 q2 x => hk b o (Nat.ne_of_lt (Heap.lt_size x)) q1 q2 (Heap.get?_push_of_some _ x)) cS1 hlen pg lay⟩
end
end PlE

namespace Pl
open PySem PySem.Spec PyProof.Rows L2
/-! ### names for the operators' readings -/
abbrev rAddI : R2 := rI0 fun i j => .int (i + j)
abbrev rSubI : R2 := rI0 fun i j => .int (i - j)
abbrev rMulI : R2 := rI CMul fun i j => .int (i * j)
abbrev rLtI : R2 := rI0 fun i j => .bl (decide (i < j))
abbrev rLeI : R2 := rI0 fun i j => .bl (decide (i ≤ j))
abbrev rGtI : R2 := rI0 fun i j => .bl (decide (j < i))
abbrev rGeI : R2 := rI0 fun i j => .bl (decide (j ≤ i))
def rMin2 : List V → Hp → VK → Prop := fun xs H Q => ∃ i j, xs = [.int i, .int j] ∧ Q (.int (if j < i then j else i)) H
def rInt1 : List V → Hp → VK → Prop := fun xs H Q => (∃ i, xs = [.int i] ∧ Q (.int i) H) ∨ ∃ k, xs = [.bl k] ∧ Q (.int (if k then 1 else 0)) H
theorem bt_len : bootBuiltins "len" = some (.builtin "len") := by decide +kernel
theorem bt_max : bootBuiltins "max" = some (.builtin "max") := by decide +kernel
theorem bt_min : bootBuiltins "min" = some (.builtin "min") := by decide +kernel
theorem bt_sum : bootBuiltins "sum" = some (.builtin "sum") := by decide +kernel
theorem bt_any : bootBuiltins "any" = some (.builtin "any") := by decide +kernel
theorem bt_all : bootBuiltins "all" = some (.builtin "all") := by decide +kernel
theorem bt_sorted : bootBuiltins "sorted" = some (.builtin "sorted") := by decide +kernel
theorem bt_list : bootBuiltins "list" = some (.type "list") := by decide +kernel
theorem bt_int : bootBuiltins "int" = some (.type "int") := by decide +kernel
theorem bt_enumerate : bootBuiltins "enumerate" = some (.type "enumerate") := by decide +kernel
section
variable {X : Cx}
/-! ### globals -/
theorem pe_gint {x : Str} {i : Int} {pos : Pos} (h : ∃ t, X.mg x = some (.int i t)) (hg : Gl X x) (hd : (x == ("__debug__" : Str)) = false := by decide) : PE X (.Name x pos) (tC (.int i)) := by
  obtain ⟨t, e⟩ := h
  exact pe_glob (by exact hg) e ⟨t, rfl⟩ hd
theorem pe_gref {x : Str} {a : Addr} {pos : Pos} (h : X.mg x = some (.ref a)) (hg : Gl X x) (hd : (x == ("__debug__" : Str)) = false := by decide) : PE X (.Name x pos) (tC (.ref a)) := pe_glob hg h rfl hd
end
/-! ### defs by their names -/
/-- the module's name x is a def that keeps its promise -/
structure Def (P : Program) (w : World) (K : PySem.W.Frag) (mg : Str → Option Value) (base : Heap) (k : Nat) (x : Str) (sp : Sp) : Prop where
  ex : ∃ (f : Addr) (fd : FuncData) (ps : List Str), FnOk P w K mg base CX0 k f fd ps sp ∧ PySem.W.keepIn K (.ref f) = true ∧ Binds K fd ps [] ∧ mg x = some (.ref f) ∧ f = He.ga K x
/-- the class x, whose __init__ keeps its promise -/
structure Ini (P : Program) (w : World) (K : PySem.W.Frag) (mg : Str → Option Value) (base : Heap) (k : Nat) (x : Str) (sp : Sp) : Prop where
  ex : ∃ (f : Addr) (fd : FuncData) (ps : List Str), FnOk P w K mg base CX0 k f fd ps sp ∧ Mk K (He.ga K x) f ∧ Binds K fd ps [] ∧ mg x = some (.ref (He.ga K x))
section
variable {X : Cx} {k : Nat} {sp : Sp} {x : Str} {p pos : Pos} {e : Expr} {es : List Expr} {t : TA}
theorem pe_callN (D : Def X.prog X.w X.K X.mg X.base k x sp) (hr : Room k X.A) (hg : Gl X x) (ha : PA X (e :: es) t) (hdb : (x == ("__debug__" : Str)) = false := by decide)
    (he : starEach (e :: es) X.env = (false, eval e X.env) :: starEach es X.env := by rfl) (hpl : (backTo pos (starEach es X.env)).any (·.1) = false := by rfl) : PE X (.Call (.Name x p) (e :: es) [] pos) (tCall sp [] E0 t) := by
  obtain ⟨f, fd, ps, F, hk, hb, hm, _⟩ := D.ex
  exact pe_call F hr hg hm hk hb .nil pass0 ha hdb he hpl
theorem pe_makeN (D : Ini X.prog X.w X.K X.mg X.base k x sp) (hr : Room (k + 1) X.A) (hg : Gl X x) (ha : PA X (e :: es) t) (hdb : (x == ("__debug__" : Str)) = false := by decide)
    (he : starEach (e :: es) X.env = (false, eval e X.env) :: starEach es X.env := by rfl) (hpl : (backTo pos (starEach es X.env)).any (·.1) = false := by rfl) : PE X (.Call (.Name x p) (e :: es) [] pos) (tMake (He.ga X.K x) sp [] E0 t) := by
  obtain ⟨f, fd, ps, F, M, hb, hm⟩ := D.ex
  exact pe_make M F hr hg hm hb .nil pass0 ha hdb he hpl
theorem pe_makeN0 (D : Ini X.prog X.w X.K X.mg X.base k x sp) (hr : Room (k + 1) X.A) (hg : Gl X x) (hdb : (x == ("__debug__" : Str)) = false := by decide) : PE X (.Call (.Name x p) [] [] pos) (tMake (He.ga X.K x) sp [] E0 tNil) := by
  obtain ⟨f, fd, ps, F, M, hb, hm⟩ := D.ex
  exact pe_make0 M F hr hg hm hb .nil pass0 hdb
/-! ### xs[i] as a place that is read for xs[i] op= e -/
theorem get_list : PGet X (rIxL X.K) := by
  intro pins s σ H ob ix ov iv Q I ro ri h
  obtain ⟨ad, zs, ix, y, rfl, rfl, hq, he, q⟩ := h
  cases ro
  obtain ⟨t, rfl⟩ := ri
  obtain ⟨us, rl, pc, hl⟩ := I.list hq
  obtain ⟨m, h1, h2, h3, h4, h5⟩ := atI_get he
  obtain ⟨u, eu, ru⟩ := rl.get h2
  have hl := rl.length
  have hn := line63
  have done : EP X pins σ Q u s := ⟨y, H, I, ru, q⟩
  by_cases h0 : 0 ≤ ix
  · have hm : ix.toNat = m := by
      rw [seqIndex_of h0 h5] at h1
      exact Option.some.inj h1
    exact wpAny_getItem_list pc.isList h0 (by omega) (by rw [hm]; simpa using eu) done
  · have hm : (ix + (us.toArray.size : Int)).toNat = m := by
      rw [seqIndex_neg (by omega) h4] at h1
      rw [List.size_toArray, ← hl]
      exact Option.some.inj h1
    exact wpAny_getItem_list_neg pc.isList (by omega) (by rw [List.size_toArray] <;> omega) (by omega) (by rw [hm]; simpa using eu) done
/-! ### min of a list of tuples of whole numbers -/
def minL (x : List Int) (xs : List (List Int)) : List Int := xs.foldl (fun a y => if decide (y < a) then y else a) x
def datI (ns : List Int) : PyData := .tuple (ns.map .int)
theorem dataLt_datI (x y : List Int) : PySem.W.dataLt (datI x) (datI y) = decide (x < y) := by
  unfold datI
  rw [PySem.W.dataLt_tuple]
  exact PySem.W.dataLt_ints x y
theorem minD_datI : ∀ (xs : List (List Int)) (x : List Int), PySem.W.minD (datI x) (xs.map datI) = datI (minL x xs)
  | [], _ => rfl
  | y :: xs, x => by
    have h := minD_datI xs (if decide (y < x) then y else x)
    unfold PySem.W.minD at h ⊢
    rw [List.map_cons, List.foldl_cons, dataLt_datI]
    have e : (if decide (y < x) = true then datI y else datI x) = datI (if decide (y < x) = true then y else x) := by
      cases decide (y < x) <;> rfl
    rw [e]
    exact h
theorem minL_mem : ∀ (xs : List (List Int)) (x : List Int), minL x xs ∈ x :: xs
  | [], x => List.mem_cons_self
  | y :: xs, x => by
    have h := minL_mem xs (if decide (y < x) then y else x)
    unfold minL at h ⊢
    rw [List.foldl_cons]
    rcases List.mem_cons.mp h with e | h
    · rw [e]
      split
      · exact List.mem_cons_of_mem _ List.mem_cons_self
      · exact List.mem_cons_self
    · exact List.mem_cons_of_mem _ (List.mem_cons_of_mem _ h)
theorem alikeAll_ints : ∀ (xs ys : List Int), PySem.W.alikeAll (xs.map .int) (ys.map .int) = true
  | [], ys => by unfold PySem.W.alikeAll; rfl
  | x :: xs, [] => by rw [List.map_cons, List.map_nil]; unfold PySem.W.alikeAll; rfl
  | x :: xs, y :: ys => by
    rw [List.map_cons, List.map_cons]
    unfold PySem.W.alikeAll
    rw [alikeAll_ints xs ys]
    rfl
theorem alike_datI (xs ys : List Int) : PySem.W.alike (datI xs) (datI ys) = true := by
  unfold datI
  unfold PySem.W.alike
  exact alikeAll_ints xs ys
theorem depthAll_ints : ∀ xs : List Int, PyData.depthAll (xs.map .int) ≤ 1
  | [] => by decide
  | x :: xs => by
    rw [List.map_cons]
    unfold PyData.depthAll
    have h := depthAll_ints xs
    have e : (PyData.int x).depth ≤ 1 := by unfold PyData.depth; omega
    omega
theorem depth_datI (xs : List Int) : (datI xs).depth ≤ 2 := by
  unfold datI PyData.depth
  have h := depthAll_ints xs
  omega
theorem depthAll_dat : ∀ xs : List (List Int), PyData.depthAll (xs.map datI) ≤ 2
  | [] => by decide
  | x :: xs => by
    rw [List.map_cons]
    unfold PyData.depthAll
    have h := depthAll_dat xs
    have e := depth_datI x
    omega
theorem reads_ints {h : Heap} : ∀ {ns : List Int} {us : List Value}, Vals (ns.map V.int) us → ∃ as, ReadsAll h us (ns.map PyData.int) as
  | [], us, r => by
    cases r
    exact ⟨_, .nil⟩
  | n :: ns, us, r => by
    cases r with
    | cons r1 r2 =>
      obtain ⟨t, rfl⟩ := r1
      obtain ⟨as, q⟩ := reads_ints r2
      exact ⟨_, .cons (.int n t) q⟩
theorem ints_reads {h : Heap} : ∀ {ns ms : List Int} {us : List Value} {as : List Addr}, Vals (ns.map V.int) us → ReadsAll h us (ms.map PyData.int) as → ns = ms
  | [], [], us, as, r, q => rfl
  | [], m :: ms, us, as, r, q => by
    cases r
    cases q
  | n :: ns, [], us, as, r, q => by
    cases r
    cases q
  | n :: ns, m :: ms, us, as, r, q => by
    cases r with
    | cons r1 r2 =>
      obtain ⟨t, rfl⟩ := r1
      cases q with
      | cons q1 q2 =>
        cases q1
        rw [ints_reads r2 q2]
abbrev TupsAt (H : Hp) : List V → List (List Int) → Prop := Paired fun (v : V) (ns : List Int) => ∃ t, v = .ref t ∧ H t = some (.tup (ns.map V.int))
theorem reads_tups {pins : List (Addr × Obj)} {σ : L2.St} {H : Hp} {s : Shared} (I : Inv X pins σ H s) : ∀ {ts : List V} {nss : List (List Int)} {us : List Value}, TupsAt H ts nss → Vals ts us → ∃ as, ReadsAll s.heap us (nss.map datI) as
  | [], _, us, p, r => by
    cases p
    cases r
    exact ⟨_, .nil⟩
  | v :: ts, _, us, p, r => by
    cases p with
    | cons p1 p2 =>
      cases r with
      | cons r1 r2 =>
        obtain ⟨t, rfl, ht⟩ := p1
        cases r1
        obtain ⟨as, q⟩ := reads_tups I p2 r2
        obtain ⟨hz, its, rv, o, ho, hc, n, hd⟩ := I.hok _ _ ht
        obtain ⟨bs, q2⟩ := reads_ints (h := s.heap) rv
        exact ⟨_, .cons (Reads.tuple (vs := its.toArray) ho hc hd (show ReadsAll s.heap its.toArray.toList _ bs from q2)) q⟩
theorem tups_get {H : Hp} : ∀ {ts : List V} {nss : List (List Int)} {i : Nat} {v : V}, TupsAt H ts nss → ts[i]? = some v → ∃ (t : Addr) (ns : List Int), v = .ref t ∧ nss[i]? = some ns ∧ H t = some (.tup (ns.map V.int))
  | [], _, i, v, p, e => by simp at e
  | x :: ts, _, 0, v, p, e => by
    cases p with
    | cons p1 p2 =>
      obtain ⟨t, rfl, ht⟩ := p1
      have e' := Option.some.inj e
      subst e'
      exact ⟨t, _, rfl, rfl, ht⟩
  | x :: ts, _, i + 1, v, p, e => by
    cases p with
    | cons p1 p2 =>
      obtain ⟨t, ns, e1, e2, e3⟩ := tups_get (i := i) (v := v) p2 (by simpa using e)
      exact ⟨t, ns, e1, by simpa using e2, e3⟩
def rMinT (K : PySem.W.Frag) : List V → Hp → VK → Prop := fun vs H Q => ∃ (a : Addr) (ts : List V) (x : List Int) (xs : List (List Int)), vs = [.ref a] ∧ SqL K H a ts ∧ TupsAt H ts (x :: xs) ∧ ∀ t, H t = some (.tup ((minL x xs).map V.int)) → Q (.ref t) H
theorem cr_minT (hc : X.calm = true) {k : Nat} (hr : Room k X.A) : CallR X (.builtin "min") (rMinT X.K) := by
  intro pins s σ H ws ys Q I r h
  obtain ⟨a, ts, x, xs, rfl, hq, hp, q⟩ := h
  obtain ⟨ls, rl, pc, _⟩ := I.list hq
  rw [Vals.ref1 r]
  obtain ⟨as, hR⟩ := reads_tups I hp rl
  have ha : PySem.W.AlikeAll (datI x :: xs.map datI) := by
    refine ⟨fun d hd e he => ?_, fun d hd => ?_⟩
    · have hd' : d ∈ (x :: xs).map datI := hd
      have he' : e ∈ (x :: xs).map datI := he
      obtain ⟨n1, _, rfl⟩ := List.mem_map.mp hd'
      obtain ⟨n2, _, rfl⟩ := List.mem_map.mp he'
      exact alike_datI _ _
    · have hd' : d ∈ (x :: xs).map datI := hd
      obtain ⟨n1, _, rfl⟩ := List.mem_map.mp hd'
      intro z
      cases z
  have hu : X.A.units + 1 + PyData.depthAll (datI x :: xs.map datI) < cLine := by
    have h1 := hr.units
    have h2 := depthAll_dat (x :: xs)
    have h3 : PyData.depthAll (datI x :: xs.map datI) ≤ 2 := h2
    omega
  refine PySem.W.min_list_data (I.ok.hd hc) pc.isList hR ha hu fun i v h' tk bs hv hv2 hk => ?_
  have hw : ls[i]? = some v := by simpa using hv
  have hi : i < ts.length := by
    have e1 := (List.getElem?_eq_some_iff.mp hw).1
    rw [rl.length]
    exact e1
  obtain ⟨t, ns, e1, e2, e3⟩ := tups_get hp (List.getElem?_eq_getElem hi)
  obtain ⟨u, e4, r4⟩ := rl.get (List.getElem?_eq_getElem hi)
  rw [hw] at e4
  have e5 := Option.some.inj e4
  subst e5
  rw [e1] at r4
  obtain rfl : v = Value.ref t := r4
  have e6 : ns = minL x xs := by
    rw [minD_datI] at hv2
    obtain ⟨hz, its', rv', o, ho, hc', n, hd⟩ := I.hok _ _ e3
    generalize hg : datI (minL x xs) = dd at hv2
    cases hv2 with
    | tuple g1 g2 g3 g4 =>
      unfold datI at hg
      have hg' := PyData.tuple.inj hg
      rw [hk _ _ ho] at g1
      have e7 := Option.some.inj g1
      subst e7
      rw [hd] at g3
      obtain ⟨e8, _⟩ := Data.seq.inj g3
      rw [← e8, ← hg'] at g4
      exact ints_reads rv' g4
    | list => cases hg
    | dict => cases hg
  rw [e6] at e3
  exact ⟨.ref t, H, I.kept hk, rfl, q t e3⟩
/-! ### list(enumerate(xs)) -/
/-- the numbered pairs put at nw addresses -/
def putP : Hp → List Addr → Nat → List V → Hp
  | H, a :: as, i, x :: xs => putP (upd H a (.tup [.int (i : Nat), x])) as (i + 1) xs
  | H, _, _, _ => H
theorem putP_off {b : Addr} : ∀ (as : List Addr) (xs : List V) (i : Nat) (H : Hp), b ∉ as → putP H as i xs b = H b
  | [], _, _, _, _ => rfl
  | _ :: _, [], _, _, _ => rfl
  | a :: as, x :: xs, i, H, h => by
    show putP (upd H a (.tup [.int (i : Nat), x])) as (i + 1) xs b = H b
    rw [putP_off as xs _ _ (fun z => h (List.mem_cons_of_mem _ z)), upd_ne (fun z => h (by rw [z]; exact List.mem_cons_self))]
theorem putP_at : ∀ (as : List Addr) (xs : List V) (i : Nat) (H : Hp), as.length = xs.length → as.Nodup → ∀ (j : Nat) (t : Addr) (x : V), as[j]? = some t → xs[j]? = some x → putP H as i xs t = some (.tup [.int ((i + j : Nat) : Int), x])
  | [], [], _, _, _, _, j, t, x, h, _ => by simp at h
  | [], _ :: _, _, _, h, _, _, _, _, _, _ => by cases h
  | _ :: _, [], _, _, h, _, _, _, _, _, _ => by cases h
  | a :: as, y :: xs, i, H, h, hn, 0, t, x, h1, h2 => by
    have ndp := List.nodup_cons.mp hn
    have e1 := Option.some.inj h1
    have e2 := Option.some.inj h2
    subst e1 e2
    show putP (upd H a (.tup [.int (i : Nat), y])) as (i + 1) xs a = _
    rw [putP_off as xs _ _ ndp.1, upd_same]
    rfl
  | a :: as, y :: xs, i, H, h, hn, j + 1, t, x, h1, h2 => by
    have ndp := List.nodup_cons.mp hn
    have ih := putP_at as xs (i + 1) (upd H a (.tup [.int (i : Nat), y])) (Nat.succ.inj h) ndp.2 j t x (by simpa using h1) (by simpa using h2)
    show putP (upd H a (.tup [.int (i : Nat), y])) as (i + 1) xs t = _
    rw [ih, show i + 1 + j = i + (j + 1) from by omega]
def rListEnum (K : PySem.W.Frag) : List V → Hp → VK → Prop := fun vs H Q => ∃ (a : Addr) (xs : List V), vs = [.ref a] ∧ SqL K H a xs ∧
  ∀ (H' : Hp) (p : Addr) (ts : List Addr), (∀ b o, H b = some o → H' b = some o) → H p = none → (∀ t ∈ ts, H t = none) → H' p = some (.lst (ts.map V.ref)) → ts.length = xs.length →
    (∀ (j : Nat) (t : Addr) (x : V), ts[j]? = some t → xs[j]? = some x → H' t = some (.tup [.int (j : Nat), x])) → Q (.ref p) H'
def tListEnum (K : PySem.W.Frag) (te : TE) : TE := fun σ H Q => te σ H fun x H1 => rListEnum K [x] H1 Q
theorem enum_laid {pins : List (Addr × Obj)} {σ : L2.St} {H : Hp} {s : Shared} {h' : Heap} {tk : Nat} {xs : List V} {ls : List Value} {acc : Array Value} {c : Nat} {as : List Addr} (I : Inv X pins σ H s) (hz : xs.length ≤ sizeLine) (rl : Vals xs ls)
    (hk : ∀ b o, s.heap.get? b = some o → h'.get? b = some o) {S : Addr} (hS0 : s.heap.objs.size ≤ S) (hS : h'.get? S = some { cls := .type "list", dict := none, data := .seq acc c, slots := #[] }) (hl : as.length = ls.length) (hG : PlE.EnG ls.toArray S h' as) (hacc : acc.toList = as.map Value.ref) :
    ∃ H' : Hp, (∀ b o, H b = some o → H' b = some o) ∧ H S = none ∧ (∀ t ∈ as, H t = none) ∧ H' S = some (.lst (as.map V.ref)) ∧
      (∀ (j : Nat) (t : Addr) (x : V), as[j]? = some t → xs[j]? = some x → H' t = some (.tup [.int (j : Nat), x])) ∧ Inv X pins σ H' { s with heap := h', toks := tk } := by
  have lk : xs.length = ls.length := rl.length
  have hSn : S ∉ as := fun z => Nat.lt_irrefl _ (hG.above _ z)
  have dis : as.Nodup := List.Pairwise.imp (fun {a b} (h : a < b) => Nat.ne_of_lt h) hG.rise
  have nw : ∀ t ∈ as, H t = none := fun t ht => I.hok.fresh (Nat.le_trans hS0 (Nat.le_of_lt (hG.above t ht)))
  have newS : H S = none := I.hok.fresh hS0
  have atP := putP_at as xs 0 (upd H S (.lst (as.map V.ref))) (by omega) dis
  have out : ∀ b, b ∉ as → b ≠ S → putP (upd H S (.lst (as.map V.ref))) as 0 xs b = H b := fun b h1 h2 => by rw [putP_off as xs _ _ h1, upd_ne h2]
  have lo : ∀ b o, s.heap.get? b = some o → b ∉ as ∧ b ≠ S := fun b o e => ⟨fun z => absurd (Heap.lt_size e) (Nat.not_lt.mpr (Nat.le_trans hS0 (Nat.le_of_lt (hG.above b z)))), Nat.ne_of_lt (Nat.lt_of_lt_of_le (Heap.lt_size e) hS0)⟩
  have kep : ∀ b u, H b = some u → (putP (upd H S (.lst (as.map V.ref))) as 0 xs) b = some u := fun b u e => by
    rw [out b (fun z => by rw [nw b z] at e; cases e) (fun z => by rw [z, newS] at e; cases e)]
    exact e
  have eS : putP (upd H S (.lst (as.map V.ref))) as 0 xs S = some (.lst (as.map V.ref)) := by rw [putP_off as xs _ _ hSn, upd_same]
  refine ⟨putP (upd H S (.lst (as.map V.ref))) as 0 xs, kep, newS, nw, eS, fun j t x h1 h2 => ?_, ?_⟩
  · have e := atP j t x h1 h2
    rw [Nat.zero_add] at e
    exact e
  refine I.call' (ch := []) rfl ⟨fun b o q _ _ _ => hk b o q, fun b o q _ _ _ => ⟨o.slots, hk b o q⟩, fun b o q n _ => ?_, fun b o q _ => ⟨o, hk b o q⟩, fun b xs q => kep b _ q, fun b o u q => kep b _ q, fun b ps q => ⟨#[], by rw [kep b _ q]; simp⟩⟩ (fun b u q => ?_) I.bare fun b z => by simp at z
  · obtain ⟨y1, y2⟩ := lo b o q
    rw [out b y1 y2]
    exact n
  · by_cases hb : b ∈ as
    · obtain ⟨j, hj⟩ := List.mem_iff_getElem?.mp hb
      have hj1 : j < as.length := (List.getElem?_eq_some_iff.mp hj).1
      have hj2 : j < xs.length := by omega
      obtain ⟨hj3, t, e3⟩ := hG.pairs j b hj
      have e4 := atP j b xs[j] hj (List.getElem?_eq_getElem hj2)
      rw [e4] at q
      cases q
      obtain ⟨u, g1, g2⟩ := rl.get (List.getElem?_eq_getElem hj2)
      have g3 : ls.toArray[j] = u := by
        have g4 : ls[j]? = some ls.toArray[j] := by simp at hj3 ⊢
        rw [g4] at g1
        exact Option.some.inj g1
      rw [g3] at e3
      exact ⟨by show 2 ≤ sizeLine; decide, [.int (j : Int) t, u], .cons ⟨t, by rw [Nat.zero_add]⟩ (.cons g2 .nil), ⟨_, e3, rfl, _, rfl⟩⟩
    · by_cases hb2 : b = S
      · rw [hb2] at q ⊢
        rw [eS] at q
        cases q
        refine ⟨by rw [List.length_map]; omega, acc.toList, c, by rw [hacc]; exact LiI.vals_refs as, ?_⟩
        rw [Array.toArray_toList]
        exact hS
      · rw [out b hb hb2] at q
        exact (I.hok b u q).stay (fun d v _ y => hk d v y) (fun d y => kep d _ y) fun d xs y => kep d _ y
theorem cr_listEnum {pins : List (Addr × Obj)} {s : Shared} {σ : L2.St} {H : Hp} {vs : List V} {us : List Value} {Q : VK} (hc : X.calm = true) (I : Inv X pins σ H s) (r : Vals vs us) (h : rListEnum X.K vs H Q) :
    wpAny (model X.prog X.w) X.A (call (.type "enumerate") us) (fun v s1 => wpAny (model X.prog X.w) X.A (call (.type "list") [v]) (EP X pins σ Q) X.xe s1) X.xe s := by
  obtain ⟨a, xs, rfl, hs, q⟩ := h
  obtain ⟨ls, rl, pc, hz⟩ := I.list hs
  rw [Vals.ref1 r]
  have hal : a < s.heap.objs.size := by obtain ⟨_, _, e, _⟩ := pc; exact Heap.lt_size e
  refine call_enumerate_list pc.isList fun h' he hit hsz hk => ?_
  have I2 : Inv X pins σ H { s with heap := h' } := I.kept (t' := s.toks) hk
  refine PlE.en_call (its := ls.toArray) (s := { s with heap := h' }) (I.ok.hd hc) he hit (pc.isList.at fun o e => hk a o e) (Nat.succ_ne_self _) (Nat.ne_of_lt (Nat.lt_succ_of_lt hal)) (Nat.ne_of_lt hal) (by rw [List.size_toArray, ← rl.length]; exact hz) fun h2 tk acc c as hk2 hS hl hG hacc => ?_
  have hsz' : h'.objs.size = s.heap.objs.size + 2 := hsz
  obtain ⟨H', k1, k2, k3, k4, k5, J⟩ := enum_laid (tk := tk) (X := X) I hz rl (h' := h2) (S := h'.objs.size) (fun b o e => hk2 b o (Nat.ne_of_lt (Nat.lt_succ_of_lt (Heap.lt_size e))) (Nat.ne_of_lt (Heap.lt_size e)) (hk b o e)) (by rw [hsz']; omega) hS (by rw [hl]; simp) hG hacc
  exact ⟨.ref _, H', J, rfl, q H' _ as k1 k2 k3 k4 (by rw [hl, rl.length]; simp) k5⟩
theorem pe_listEnum {e : Expr} {te : TE} {p p2 pos pos2 : Pos} (hc : X.calm = true) (hg : Gl X "list") (hm : X.mg "list" = none) (hg2 : Gl X "enumerate") (hm2 : X.mg "enumerate" = none) (he : PE X e te)
    (hs : starEach [.Call (.Name "enumerate" p2) [e] [] pos2] X.env = [(false, eval (.Call (.Name "enumerate" p2) [e] [] pos2) X.env)] := by rfl) (hs2 : starEach [e] X.env = [(false, eval e X.env)] := by rfl) :
    PE X (.Call (.Name "list" p) [.Call (.Name "enumerate" p2) [e] [] pos2] [] pos) (tListEnum X.K te) := by
  refine ⟨fun pins s σ H Q I h => wpAny_Call_Name_kw (ld_blt I hg hm bt_list (PyProof.Rows.callWith_type1 ?_ hs rfl))⟩
  rw [hs]
  show wpAny _ _ (spliced ((false, eval (.Call (.Name "enumerate" p2) [e] [] pos2) X.env) :: backTo pos (starEach [] X.env))) _ _ s
  refine Calls.spliced_cons ?_
  refine wpAny_Call_Name_kw (ld_blt I hg2 hm2 bt_enumerate ?_)
  have ha : PA X [e] (tCons te tNil) := pa_cons he pa_nil hs2
  refine PyProof.Rows.callWith_type1 (thn (ha.run pos2 pins s σ H (fun vs H1 => rListEnum X.K vs H1 Q) I h) fun us s1 ⟨vs, H1, I1, r1, q⟩ => ?_) hs2 rfl
  refine thn (cr_listEnum hc I1 r1 q) fun v s2 hv => ?_
  refine Calls.spliced_nil ?_
  exact hv
end
end Pl

namespace Pl
open PySem PySem.Spec PyProof.Rows L2
def d_init_Work : He.DefD := ⟨("Work", some "__init__"), "__init__", "Work.__init__", defArgs s_init_Work, defBody s_init_Work, defScope s_init_Work, [], []⟩
def d_init_Kit : He.DefD := ⟨("Kit", some "__init__"), "__init__", "Kit.__init__", defArgs s_init_Kit, defBody s_init_Kit, defScope s_init_Kit, [], []⟩
def d_init_Hiring : He.DefD := ⟨("Hiring", some "__init__"), "__init__", "Hiring.__init__", defArgs s_init_Hiring, defBody s_init_Hiring, defScope s_init_Hiring, [], []⟩
def d_init_Library : He.DefD := ⟨("Library", some "__init__"), "__init__", "Library.__init__", defArgs s_init_Library, defBody s_init_Library, defScope s_init_Library, [], []⟩
def d_are_parts : He.DefD := ⟨("are_parts", none), "are_parts", "are_parts", defArgs s_are_parts, defBody s_are_parts, defScope s_are_parts, [], []⟩
def d_there_of : He.DefD := ⟨("there_of", none), "there_of", "there_of", defArgs s_there_of, defBody s_there_of, defScope s_there_of, [], []⟩
def d_last_day : He.DefD := ⟨("last_day", none), "last_day", "last_day", defArgs s_last_day, defBody s_last_day, defScope s_last_day, [], []⟩
def d_is_on : He.DefD := ⟨("is_on", none), "is_on", "is_on", defArgs s_is_on, defBody s_is_on, defScope s_is_on, [], []⟩
def d_over_day : He.DefD := ⟨("over_day", none), "over_day", "over_day", defArgs s_over_day, defBody s_over_day, defScope s_over_day, [], []⟩
def d_has_on : He.DefD := ⟨("has_on", none), "has_on", "has_on", defArgs s_has_on, defBody s_has_on, defScope s_has_on, [], []⟩
def d_late_by : He.DefD := ⟨("late_by", none), "late_by", "late_by", defArgs s_late_by, defBody s_late_by, defScope s_late_by, [], []⟩
def d_is_out : He.DefD := ⟨("is_out", none), "is_out", "is_out", defArgs s_is_out, defBody s_is_out, defScope s_is_out, [], []⟩
def d_others_of : He.DefD := ⟨("others_of", none), "others_of", "others_of", defArgs s_others_of, defBody s_others_of, defScope s_others_of, [], []⟩
def d_free_on : He.DefD := ⟨("free_on", none), "free_on", "free_on", defArgs s_free_on, defBody s_free_on, defScope s_free_on, [], []⟩
def d_least_free : He.DefD := ⟨("least_free", none), "least_free", "least_free", defArgs s_least_free, defBody s_least_free, defScope s_least_free, [], []⟩
def d_are_enough : He.DefD := ⟨("are_enough", none), "are_enough", "are_enough", defArgs s_are_enough, defBody s_are_enough, defScope s_are_enough, [], []⟩
def d_lack_of : He.DefD := ⟨("lack_of", none), "lack_of", "lack_of", defArgs s_lack_of, defBody s_lack_of, defScope s_lack_of, [], []⟩
def d_extra_of : He.DefD := ⟨("extra_of", none), "extra_of", "extra_of", defArgs s_extra_of, defBody s_extra_of, defScope s_extra_of, [], []⟩
def d_is_kit_free : He.DefD := ⟨("is_kit_free", none), "is_kit_free", "is_kit_free", defArgs s_is_kit_free, defBody s_is_kit_free, defScope s_is_kit_free, [], []⟩
def d_end_of : He.DefD := ⟨("end_of", none), "end_of", "end_of", defArgs s_end_of, defBody s_end_of, defScope s_end_of, [], []⟩
def d_does : He.DefD := ⟨("does", none), "does", "does", defArgs s_does, defBody s_does, defScope s_does, [], []⟩
def d_free_for : He.DefD := ⟨("free_for", none), "free_for", "free_for", defArgs s_free_for, defBody s_free_for, defScope s_free_for, [], []⟩
def d_that_do : He.DefD := ⟨("that_do", none), "that_do", "that_do", defArgs s_that_do, defBody s_that_do, defScope s_that_do, [], []⟩
def d_rank_of : He.DefD := ⟨("rank_of", none), "rank_of", "rank_of", defArgs s_rank_of, defBody s_rank_of, defScope s_rank_of, [], []⟩
def d_best_of : He.DefD := ⟨("best_of", none), "best_of", "best_of", defArgs s_best_of, defBody s_best_of, defScope s_best_of, [], []⟩
def d_are_days_right : He.DefD := ⟨("are_days_right", none), "are_days_right", "are_days_right", defArgs s_are_days_right, defBody s_are_days_right, defScope s_are_days_right, [], []⟩
def d_hire : He.DefD := ⟨("hire", none), "hire", "hire", defArgs s_hire, defBody s_hire, defScope s_hire, [], []⟩
def d_cancel : He.DefD := ⟨("cancel", none), "cancel", "cancel", defArgs s_cancel, defBody s_cancel, defScope s_cancel, [], []⟩
def d_swap : He.DefD := ⟨("swap", none), "swap", "swap", defArgs s_swap, defBody s_swap, defScope s_swap, [], []⟩
def d_is_in_way : He.DefD := ⟨("is_in_way", none), "is_in_way", "is_in_way", defArgs s_is_in_way, defBody s_is_in_way, defScope s_is_in_way, [], []⟩
def d_is_any_in_way : He.DefD := ⟨("is_any_in_way", none), "is_any_in_way", "is_any_in_way", defArgs s_is_any_in_way, defBody s_is_any_in_way, defScope s_is_any_in_way, [], []⟩
def d_longer : He.DefD := ⟨("longer", none), "longer", "longer", defArgs s_longer, defBody s_longer, defScope s_longer, [], []⟩
def d_slack : He.DefD := ⟨("slack", none), "slack", "slack", defArgs s_slack, defBody s_slack, defScope s_slack, [], []⟩
def d_begin : He.DefD := ⟨("begin", none), "begin", "begin", defArgs s_begin, defBody s_begin, defScope s_begin, [], []⟩
def d_put_work : He.DefD := ⟨("put_work", none), "put_work", "put_work", defArgs s_put_work, defBody s_put_work, defScope s_put_work, [], []⟩
def d_put_kit : He.DefD := ⟨("put_kit", none), "put_kit", "put_kit", defArgs s_put_kit, defBody s_put_kit, defScope s_put_kit, [], []⟩
def d_put_loose : He.DefD := ⟨("put_loose", none), "put_loose", "put_loose", defArgs s_put_loose, defBody s_put_loose, defScope s_put_loose, [], []⟩
def d_why_not_sent : He.DefD := ⟨("why_not_sent", none), "why_not_sent", "why_not_sent", defArgs s_why_not_sent, defBody s_why_not_sent, defScope s_why_not_sent, [], []⟩
def d_sent_of : He.DefD := ⟨("sent_of", none), "sent_of", "sent_of", defArgs s_sent_of, defBody s_sent_of, defScope s_sent_of, [], []⟩
def d_send : He.DefD := ⟨("send", none), "send", "send", defArgs s_send, defBody s_send, defScope s_send, [], []⟩
def d_are_winds : He.DefD := ⟨("are_winds", none), "are_winds", "are_winds", defArgs s_are_winds, defBody s_are_winds, defScope s_are_winds, [], []⟩
def d_are_lost : He.DefD := ⟨("are_lost", none), "are_lost", "are_lost", defArgs s_are_lost, defBody s_are_lost, defScope s_are_lost, [], []⟩
def d_bill_of : He.DefD := ⟨("bill_of", none), "bill_of", "bill_of", defArgs s_bill_of, defBody s_bill_of, defScope s_bill_of, [], []⟩
def d_lose_strings : He.DefD := ⟨("lose_strings", none), "lose_strings", "lose_strings", defArgs s_lose_strings, defBody s_lose_strings, defScope s_lose_strings, [], []⟩
def d_back : He.DefD := ⟨("back", none), "back", "back", defArgs s_back, defBody s_back, defScope s_back, [], []⟩
def d_replace : He.DefD := ⟨("replace", none), "replace", "replace", defArgs s_replace, defBody s_replace, defScope s_replace, [], []⟩
def d_rub : He.DefD := ⟨("rub", none), "rub", "rub", defArgs s_rub, defBody s_rub, defScope s_rub, [], []⟩
def d_go_on : He.DefD := ⟨("go_on", none), "go_on", "go_on", defArgs s_go_on, defBody s_go_on, defScope s_go_on, [], []⟩
def d_why_not_asked : He.DefD := ⟨("why_not_asked", none), "why_not_asked", "why_not_asked", defArgs s_why_not_asked, defBody s_why_not_asked, defScope s_why_not_asked, [], []⟩
def d_some_that_do : He.DefD := ⟨("some_that_do", none), "some_that_do", "some_that_do", defArgs s_some_that_do, defBody s_some_that_do, defScope s_some_that_do, [], []⟩
def d_could : He.DefD := ⟨("could", none), "could", "could", defArgs s_could, defBody s_could, defScope s_could, [], []⟩
def d_choices : He.DefD := ⟨("choices", none), "choices", "choices", defArgs s_choices, defBody s_choices, defScope s_choices, [], []⟩
def d_having_on : He.DefD := ⟨("having_on", none), "having_on", "having_on", defArgs s_having_on, defBody s_having_on, defScope s_having_on, [], []⟩
def d_most : He.DefD := ⟨("most", none), "most", "most", defArgs s_most, defBody s_most, defScope s_most, [], []⟩
def d_free : He.DefD := ⟨("free", none), "free", "free", defArgs s_free, defBody s_free, defScope s_free, [], []⟩
def d_lacks : He.DefD := ⟨("lacks", none), "lacks", "lacks", defArgs s_lacks, defBody s_lacks, defScope s_lacks, [], []⟩
def d_plan : He.DefD := ⟨("plan", none), "plan", "plan", defArgs s_plan, defBody s_plan, defScope s_plan, [], []⟩
def d_due : He.DefD := ⟨("due", none), "due", "due", defArgs s_due, defBody s_due, defScope s_due, [], []⟩
def d_lost : He.DefD := ⟨("lost", none), "lost", "lost", defArgs s_lost, defBody s_lost, defScope s_lost, [], []⟩
def d_torn : He.DefD := ⟨("torn", none), "torn", "torn", defArgs s_torn, defBody s_torn, defScope s_torn, [], []⟩
def d_has : He.DefD := ⟨("has", none), "has", "has", defArgs s_has, defBody s_has, defScope s_has, [], []⟩
def d_bill : He.DefD := ⟨("bill", none), "bill", "bill", defArgs s_bill, defBody s_bill, defScope s_bill, [], []⟩
def d_late : He.DefD := ⟨("late", none), "late", "late", defArgs s_late, defBody s_late, defScope s_late, [], []⟩
def d_shelf : He.DefD := ⟨("shelf", none), "shelf", "shelf", defArgs s_shelf, defBody s_shelf, defScope s_shelf, [], []⟩
def d_look : He.DefD := ⟨("look", none), "look", "look", defArgs s_look, defBody s_look, defScope s_look, [], []⟩
def d_marks : He.DefD := ⟨("marks", none), "marks", "marks", defArgs s_marks, defBody s_marks, defScope s_marks, [], []⟩
def d_sums : He.DefD := ⟨("sums", none), "sums", "sums", defArgs s_sums, defBody s_sums, defScope s_sums, [], []⟩
def d_state : He.DefD := ⟨("state", none), "state", "state", defArgs s_state, defBody s_state, defScope s_state, [], []⟩
def d_rows_at : He.DefD := ⟨("rows_at", none), "rows_at", "rows_at", defArgs s_rows_at, defBody s_rows_at, defScope s_rows_at, [], []⟩
def d_answer_to : He.DefD := ⟨("answer_to", none), "answer_to", "answer_to", defArgs s_answer_to, defBody s_answer_to, defScope s_answer_to, [], []⟩
def d_answers : He.DefD := ⟨("answers", none), "answers", "answers", defArgs s_answers, defBody s_answers, defScope s_answers, [], []⟩
def fn : List He.DefD := [d_init_Work, d_init_Kit, d_init_Hiring, d_init_Library, d_are_parts, d_there_of, d_last_day, d_is_on, d_over_day, d_has_on, d_late_by, d_is_out, d_others_of, d_free_on, d_least_free, d_are_enough, d_lack_of, d_extra_of, d_is_kit_free, d_end_of, d_does, d_free_for, d_that_do, d_rank_of, d_best_of, d_are_days_right, d_hire, d_cancel, d_swap, d_is_in_way]
  ++ [d_is_any_in_way, d_longer, d_slack, d_begin, d_put_work, d_put_kit, d_put_loose, d_why_not_sent, d_sent_of, d_send, d_are_winds, d_are_lost, d_bill_of, d_lose_strings, d_back, d_replace, d_rub, d_go_on, d_why_not_asked, d_some_that_do, d_could, d_choices, d_having_on, d_most, d_free, d_lacks, d_plan, d_due, d_lost, d_torn]
  ++ [d_has, d_bill, d_late, d_shelf, d_look, d_marks, d_sums, d_state, d_rows_at, d_answer_to, d_answers]
def fa0 : List He.Fa := [.glo "are_parts", .glo "there_of", .glo "last_day", .glo "is_on", .glo "over_day", .glo "has_on", .glo "late_by", .glo "is_out", .glo "others_of", .glo "free_on", .glo "least_free", .glo "are_enough", .glo "lack_of", .glo "extra_of", .glo "is_kit_free", .glo "end_of", .glo "does", .glo "free_for", .glo "that_do", .glo "rank_of", .glo "best_of", .glo "are_days_right", .glo "hire", .glo "cancel", .glo "swap", .glo "is_in_way", .glo "is_any_in_way", .glo "longer", .glo "slack", .glo "begin"]
def fa1 : List He.Fa := [.glo "put_work", .glo "put_kit", .glo "put_loose", .glo "why_not_sent", .glo "sent_of", .glo "send", .glo "are_winds", .glo "are_lost", .glo "bill_of", .glo "lose_strings", .glo "back", .glo "replace", .glo "rub", .glo "go_on", .glo "why_not_asked", .glo "some_that_do", .glo "could", .glo "choices", .glo "having_on", .glo "most", .glo "free", .glo "lacks", .glo "plan", .glo "due", .glo "lost", .glo "torn", .glo "has", .glo "bill", .glo "late", .glo "shelf"]
def fa2 : List He.Fa := [.glo "look", .glo "marks", .glo "sums", .glo "state", .glo "rows_at", .glo "answer_to", .glo "answers", .glo "Work", .glo "Kit", .glo "Hiring", .glo "Library", .glo "DEEDS", .glo "PLAIN", .glo "ROWS", .int "NONE_SUCH" (-2), .int "NOTHING" (-6), .int "NOT_BEGUN" (-11), .int "LACKS_PART" (-12), .int "NOT_YET" (-13), .int "NOT_SO" (-16), .int "ALREADY" (-17), .int "IS_MARKED" (-19), .int "OUT_OF_RANGE" (-22), .int "TOO_MANY" (-28), .int "CANNOT_BE" (-33), .int "BOOKED" (0), .int "OUT" (1), .int "BACK" (2), .int "OFF" (3), .int "SECTIONS" (5)]
def fa3 : List He.Fa := [.int "NO_HIRING" (-1), .int "MOST_DAYS" (60), .int "END_OF_DAYS" (1000), .int "MOST_CONCERTS" (20), .int "MOST_HIRINGS" (40), .int "MOST_TURN" (14), .int "MOST_FINE" (1000), .int "MOST_WINDS" (30), .int "MOST_FEE" (10000), .int "MOST_PRICE" (1000), .int "MOST_WORKS" (8), .int "MOST_KITS" (12), .int "MOST_LOOSE" (60), .int "MOST_PUT" (20), .int "MOST_STEP" (60), .int "LAST_ASKED" (1100), .int "BEGIN" (0), .free "len", .free "all", .free "any", .free "range", .free "enumerate", .free "list", .free "max", .free "min", .free "sum", .free "sorted", .free "int", .cls "Work", .mkr "Work"]
def fa4 : List He.Fa := [.noat "Work" "winds", .noat "Work" "fee", .noat "Work" "more", .noat "Work" "price", .noat "Work" "loose", .cls "Kit", .mkr "Kit", .noat "Kit" "work", .noat "Kit" "strings", .noat "Kit" "missing", .noat "Kit" "gone", .noat "Kit" "marked", .cls "Hiring", .mkr "Hiring", .noat "Hiring" "work", .noat "Hiring" "first", .noat "Hiring" "spell", .noat "Hiring" "concerts", .noat "Hiring" "clean", .noat "Hiring" "desks", .noat "Hiring" "kit", .noat "Hiring" "put", .noat "Hiring" "how", .cls "Library", .mkr "Library", .noat "Library" "is_begun", .noat "Library" "turn", .noat "Library" "fine", .noat "Library" "today", .noat "Library" "works"]
def fa5 : List He.Fa := [.noat "Library" "kits", .noat "Library" "hirings", .noat "Library" "paid", .noat "Library" "replaced"]
def fa : List He.Fa := fa0 ++ fa1 ++ fa2 ++ fa3 ++ fa4 ++ fa5
def tb_DEEDS : List He.Dv := [.glo "begin", .glo "put_work", .glo "put_kit", .glo "put_loose", .glo "hire", .glo "cancel", .glo "send", .glo "back", .glo "replace", .glo "rub", .glo "longer", .glo "swap", .glo "go_on", .glo "could", .glo "choices", .glo "slack", .glo "most", .glo "free", .glo "lacks", .glo "plan", .glo "due", .glo "lost", .glo "torn", .glo "has", .glo "bill", .glo "late", .glo "shelf", .glo "look", .glo "marks", .glo "sums", .glo "state"]
def tb_PLAIN : List He.Dv := [.int 2, .int 4, .int 1, .int 3, .int 5, .int 1, .int 1, .int 1, .int 1, .int 1, .int 2, .int 2, .int 1, .int 3, .int 3, .int 1, .int 1, .int 3, .int 1, .int 1, .int 0, .int 1, .int 0, .int 1, .int 1, .int 1, .int 0, .int 1, .int 1, .int 0, .int 0]
def tb_ROWS : List He.Dv := [.int 0, .int 0, .int 1, .int 0, .int 1, .int 0, .int 0, .int 2, .int 0, .int 0, .int 0, .int 0, .int 0, .int 1, .int 1, .int 0, .int 0, .int 0, .int 1, .int 0, .int 0, .int 0, .int 0, .int 0, .int 0, .int 0, .int 0, .int 0, .int 0, .int 0, .int 0]
def ex (K : PySem.W.Frag) : Bool := He.tupB K "DEEDS" tb_DEEDS && He.tupB K "PLAIN" tb_PLAIN && He.tupB K "ROWS" tb_ROWS

/-- the Hook of facts by names, with one more Bool -/
abbrev AlP : Type := He.AlD × Bool
def obsP (n : Nat) (g : Addr → Option Obj) : AlP := (He.obsD fa fn (He.frG g (He.asD g n)), ex (He.frG g (He.asD g n)))
structure SaysP (K : PySem.W.Frag) : Prop where
  d : He.SaysD fa fn K
  x : ex K = true
def hookP (n : Nat) : PySem.W.Hook where
  α := AlP
  obs := fun s => obsP n s.heap.get?
  val := fun _ => (He.valD fn, true)
  says := fun _ h => ∃ K : PySem.W.Frag, K.In h ∧ SaysP K
  of := fun _ _ e => ⟨_, He.frG_in, ⟨congrArg (fun z : AlP => z.1) e, congrArg (fun z : AlP => z.2) e⟩⟩
  keeps := fun _ _ _ ⟨F, inF, told⟩ old => ⟨F, PySem.W.Frag.In.keeps inF old, told⟩
theorem obsP_eq {n : Nat} {g : Addr → Option Obj} {s : Shared} (h : ∀ a, g a = s.heap.get? a) : obsP n g = (hookP n).obs s := by
  have eg : g = s.heap.get? := funext fun x => h x
  rw [eg] <;> rfl
abbrev hk : PySem.W.Hook := hookP 4
def ob (s : PySem.W.SharedT) : AlP := obsP 4 (HeadRun.getT s)
theorem ob_eq (s : PySem.W.SharedT) : ob s = hk.obs s.abs := obsP_eq (HeadRun.getT_eq s)
abbrev qv : Program := PySem.W.view PySem.Challenge.rw_partlibrary_s01_answers.prog [114]
def nm0 : List PySem.Str := ["NONE_SUCH", "NOTHING", "NOT_BEGUN", "LACKS_PART", "NOT_YET", "NOT_SO", "ALREADY", "IS_MARKED", "OUT_OF_RANGE", "TOO_MANY", "CANNOT_BE", "BOOKED", "OUT", "BACK", "OFF", "SECTIONS", "NO_HIRING", "MOST_DAYS", "END_OF_DAYS", "MOST_CONCERTS", "MOST_HIRINGS", "MOST_TURN", "MOST_FINE", "MOST_WINDS", "MOST_FEE", "MOST_PRICE", "MOST_WORKS", "MOST_KITS", "MOST_LOOSE", "MOST_PUT"]
def nm1 : List PySem.Str := ["MOST_STEP", "LAST_ASKED", "BEGIN", "Work", "Kit", "Hiring", "Library", "DEEDS", "PLAIN", "ROWS", "are_parts", "there_of", "last_day", "is_on", "over_day", "has_on", "late_by", "is_out", "others_of", "free_on", "least_free", "are_enough", "lack_of", "extra_of", "is_kit_free", "end_of", "does", "free_for", "that_do", "rank_of"]
def nm2 : List PySem.Str := ["best_of", "are_days_right", "hire", "cancel", "swap", "is_in_way", "is_any_in_way", "longer", "slack", "begin", "put_work", "put_kit", "put_loose", "why_not_sent", "sent_of", "send", "are_winds", "are_lost", "bill_of", "lose_strings", "back", "replace", "rub", "go_on", "why_not_asked", "some_that_do", "could", "choices", "having_on", "most"]
def nm3 : List PySem.Str := ["free", "lacks", "plan", "due", "lost", "torn", "has", "bill", "late", "shelf", "look", "marks", "sums", "state", "rows_at", "answer_to"]
def names : List PySem.Str := nm0 ++ nm1 ++ nm2 ++ nm3

/-! ### the facts by their names -/
structure Txt (K : PySem.W.Frag) (mg : Str → Option Value) : Prop where
  c : SaysP K
  h : ∃ hp : Heap, K.In hp ∧ hp.Ns mainGlobals mg
namespace Txt
variable {K : PySem.W.Frag} {mg : Str → Option Value}
theorem gl (T : Txt K mg) {x : Str} (c : (He.Fa.glo x).ok K = true) : mg x = some (.ref (He.ga K x)) := by
  obtain ⟨hp, X, G⟩ := T.h
  exact He.glo_ok X G c
theorem fr (T : Txt K mg) {x : Str} (c : (He.Fa.free x).ok K = true) : mg x = none := by
  obtain ⟨hp, X, G⟩ := T.h
  exact He.free_ok X G c
theorem ci (T : Txt K mg) {x : Str} {i : Int} (c : (He.Fa.int x i).ok K = true) : ∃ t, mg x = some (.int i t) := by
  obtain ⟨hp, X, G⟩ := T.h
  exact He.int_ok X G c
theorem g_are_parts (T : Txt K mg) : mg "are_parts" = some (.ref (He.ga K "are_parts")) := T.gl (T.c.d.fact 0 (f := .glo "are_parts") rfl)
theorem g_there_of (T : Txt K mg) : mg "there_of" = some (.ref (He.ga K "there_of")) := T.gl (T.c.d.fact 1 (f := .glo "there_of") rfl)
theorem g_last_day (T : Txt K mg) : mg "last_day" = some (.ref (He.ga K "last_day")) := T.gl (T.c.d.fact 2 (f := .glo "last_day") rfl)
theorem g_is_on (T : Txt K mg) : mg "is_on" = some (.ref (He.ga K "is_on")) := T.gl (T.c.d.fact 3 (f := .glo "is_on") rfl)
theorem g_over_day (T : Txt K mg) : mg "over_day" = some (.ref (He.ga K "over_day")) := T.gl (T.c.d.fact 4 (f := .glo "over_day") rfl)
theorem g_has_on (T : Txt K mg) : mg "has_on" = some (.ref (He.ga K "has_on")) := T.gl (T.c.d.fact 5 (f := .glo "has_on") rfl)
theorem g_late_by (T : Txt K mg) : mg "late_by" = some (.ref (He.ga K "late_by")) := T.gl (T.c.d.fact 6 (f := .glo "late_by") rfl)
theorem g_is_out (T : Txt K mg) : mg "is_out" = some (.ref (He.ga K "is_out")) := T.gl (T.c.d.fact 7 (f := .glo "is_out") rfl)
theorem g_others_of (T : Txt K mg) : mg "others_of" = some (.ref (He.ga K "others_of")) := T.gl (T.c.d.fact 8 (f := .glo "others_of") rfl)
theorem g_free_on (T : Txt K mg) : mg "free_on" = some (.ref (He.ga K "free_on")) := T.gl (T.c.d.fact 9 (f := .glo "free_on") rfl)
theorem g_least_free (T : Txt K mg) : mg "least_free" = some (.ref (He.ga K "least_free")) := T.gl (T.c.d.fact 10 (f := .glo "least_free") rfl)
theorem g_are_enough (T : Txt K mg) : mg "are_enough" = some (.ref (He.ga K "are_enough")) := T.gl (T.c.d.fact 11 (f := .glo "are_enough") rfl)
theorem g_lack_of (T : Txt K mg) : mg "lack_of" = some (.ref (He.ga K "lack_of")) := T.gl (T.c.d.fact 12 (f := .glo "lack_of") rfl)
theorem g_extra_of (T : Txt K mg) : mg "extra_of" = some (.ref (He.ga K "extra_of")) := T.gl (T.c.d.fact 13 (f := .glo "extra_of") rfl)
theorem g_is_kit_free (T : Txt K mg) : mg "is_kit_free" = some (.ref (He.ga K "is_kit_free")) := T.gl (T.c.d.fact 14 (f := .glo "is_kit_free") rfl)
theorem g_end_of (T : Txt K mg) : mg "end_of" = some (.ref (He.ga K "end_of")) := T.gl (T.c.d.fact 15 (f := .glo "end_of") rfl)
theorem g_does (T : Txt K mg) : mg "does" = some (.ref (He.ga K "does")) := T.gl (T.c.d.fact 16 (f := .glo "does") rfl)
theorem g_free_for (T : Txt K mg) : mg "free_for" = some (.ref (He.ga K "free_for")) := T.gl (T.c.d.fact 17 (f := .glo "free_for") rfl)
theorem g_that_do (T : Txt K mg) : mg "that_do" = some (.ref (He.ga K "that_do")) := T.gl (T.c.d.fact 18 (f := .glo "that_do") rfl)
theorem g_rank_of (T : Txt K mg) : mg "rank_of" = some (.ref (He.ga K "rank_of")) := T.gl (T.c.d.fact 19 (f := .glo "rank_of") rfl)
theorem g_best_of (T : Txt K mg) : mg "best_of" = some (.ref (He.ga K "best_of")) := T.gl (T.c.d.fact 20 (f := .glo "best_of") rfl)
theorem g_are_days_right (T : Txt K mg) : mg "are_days_right" = some (.ref (He.ga K "are_days_right")) := T.gl (T.c.d.fact 21 (f := .glo "are_days_right") rfl)
theorem g_hire (T : Txt K mg) : mg "hire" = some (.ref (He.ga K "hire")) := T.gl (T.c.d.fact 22 (f := .glo "hire") rfl)
theorem g_cancel (T : Txt K mg) : mg "cancel" = some (.ref (He.ga K "cancel")) := T.gl (T.c.d.fact 23 (f := .glo "cancel") rfl)
theorem g_swap (T : Txt K mg) : mg "swap" = some (.ref (He.ga K "swap")) := T.gl (T.c.d.fact 24 (f := .glo "swap") rfl)
theorem g_is_in_way (T : Txt K mg) : mg "is_in_way" = some (.ref (He.ga K "is_in_way")) := T.gl (T.c.d.fact 25 (f := .glo "is_in_way") rfl)
theorem g_is_any_in_way (T : Txt K mg) : mg "is_any_in_way" = some (.ref (He.ga K "is_any_in_way")) := T.gl (T.c.d.fact 26 (f := .glo "is_any_in_way") rfl)
theorem g_longer (T : Txt K mg) : mg "longer" = some (.ref (He.ga K "longer")) := T.gl (T.c.d.fact 27 (f := .glo "longer") rfl)
theorem g_slack (T : Txt K mg) : mg "slack" = some (.ref (He.ga K "slack")) := T.gl (T.c.d.fact 28 (f := .glo "slack") rfl)
theorem g_begin (T : Txt K mg) : mg "begin" = some (.ref (He.ga K "begin")) := T.gl (T.c.d.fact 29 (f := .glo "begin") rfl)
theorem g_put_work (T : Txt K mg) : mg "put_work" = some (.ref (He.ga K "put_work")) := T.gl (T.c.d.fact 30 (f := .glo "put_work") rfl)
theorem g_put_kit (T : Txt K mg) : mg "put_kit" = some (.ref (He.ga K "put_kit")) := T.gl (T.c.d.fact 31 (f := .glo "put_kit") rfl)
theorem g_put_loose (T : Txt K mg) : mg "put_loose" = some (.ref (He.ga K "put_loose")) := T.gl (T.c.d.fact 32 (f := .glo "put_loose") rfl)
theorem g_why_not_sent (T : Txt K mg) : mg "why_not_sent" = some (.ref (He.ga K "why_not_sent")) := T.gl (T.c.d.fact 33 (f := .glo "why_not_sent") rfl)
theorem g_sent_of (T : Txt K mg) : mg "sent_of" = some (.ref (He.ga K "sent_of")) := T.gl (T.c.d.fact 34 (f := .glo "sent_of") rfl)
theorem g_send (T : Txt K mg) : mg "send" = some (.ref (He.ga K "send")) := T.gl (T.c.d.fact 35 (f := .glo "send") rfl)
theorem g_are_winds (T : Txt K mg) : mg "are_winds" = some (.ref (He.ga K "are_winds")) := T.gl (T.c.d.fact 36 (f := .glo "are_winds") rfl)
theorem g_are_lost (T : Txt K mg) : mg "are_lost" = some (.ref (He.ga K "are_lost")) := T.gl (T.c.d.fact 37 (f := .glo "are_lost") rfl)
theorem g_bill_of (T : Txt K mg) : mg "bill_of" = some (.ref (He.ga K "bill_of")) := T.gl (T.c.d.fact 38 (f := .glo "bill_of") rfl)
theorem g_lose_strings (T : Txt K mg) : mg "lose_strings" = some (.ref (He.ga K "lose_strings")) := T.gl (T.c.d.fact 39 (f := .glo "lose_strings") rfl)
theorem g_back (T : Txt K mg) : mg "back" = some (.ref (He.ga K "back")) := T.gl (T.c.d.fact 40 (f := .glo "back") rfl)
theorem g_replace (T : Txt K mg) : mg "replace" = some (.ref (He.ga K "replace")) := T.gl (T.c.d.fact 41 (f := .glo "replace") rfl)
theorem g_rub (T : Txt K mg) : mg "rub" = some (.ref (He.ga K "rub")) := T.gl (T.c.d.fact 42 (f := .glo "rub") rfl)
theorem g_go_on (T : Txt K mg) : mg "go_on" = some (.ref (He.ga K "go_on")) := T.gl (T.c.d.fact 43 (f := .glo "go_on") rfl)
theorem g_why_not_asked (T : Txt K mg) : mg "why_not_asked" = some (.ref (He.ga K "why_not_asked")) := T.gl (T.c.d.fact 44 (f := .glo "why_not_asked") rfl)
theorem g_some_that_do (T : Txt K mg) : mg "some_that_do" = some (.ref (He.ga K "some_that_do")) := T.gl (T.c.d.fact 45 (f := .glo "some_that_do") rfl)
theorem g_could (T : Txt K mg) : mg "could" = some (.ref (He.ga K "could")) := T.gl (T.c.d.fact 46 (f := .glo "could") rfl)
theorem g_choices (T : Txt K mg) : mg "choices" = some (.ref (He.ga K "choices")) := T.gl (T.c.d.fact 47 (f := .glo "choices") rfl)
theorem g_having_on (T : Txt K mg) : mg "having_on" = some (.ref (He.ga K "having_on")) := T.gl (T.c.d.fact 48 (f := .glo "having_on") rfl)
theorem g_most (T : Txt K mg) : mg "most" = some (.ref (He.ga K "most")) := T.gl (T.c.d.fact 49 (f := .glo "most") rfl)
theorem g_free (T : Txt K mg) : mg "free" = some (.ref (He.ga K "free")) := T.gl (T.c.d.fact 50 (f := .glo "free") rfl)
theorem g_lacks (T : Txt K mg) : mg "lacks" = some (.ref (He.ga K "lacks")) := T.gl (T.c.d.fact 51 (f := .glo "lacks") rfl)
theorem g_plan (T : Txt K mg) : mg "plan" = some (.ref (He.ga K "plan")) := T.gl (T.c.d.fact 52 (f := .glo "plan") rfl)
theorem g_due (T : Txt K mg) : mg "due" = some (.ref (He.ga K "due")) := T.gl (T.c.d.fact 53 (f := .glo "due") rfl)
theorem g_lost (T : Txt K mg) : mg "lost" = some (.ref (He.ga K "lost")) := T.gl (T.c.d.fact 54 (f := .glo "lost") rfl)
theorem g_torn (T : Txt K mg) : mg "torn" = some (.ref (He.ga K "torn")) := T.gl (T.c.d.fact 55 (f := .glo "torn") rfl)
theorem g_has (T : Txt K mg) : mg "has" = some (.ref (He.ga K "has")) := T.gl (T.c.d.fact 56 (f := .glo "has") rfl)
theorem g_bill (T : Txt K mg) : mg "bill" = some (.ref (He.ga K "bill")) := T.gl (T.c.d.fact 57 (f := .glo "bill") rfl)
theorem g_late (T : Txt K mg) : mg "late" = some (.ref (He.ga K "late")) := T.gl (T.c.d.fact 58 (f := .glo "late") rfl)
theorem g_shelf (T : Txt K mg) : mg "shelf" = some (.ref (He.ga K "shelf")) := T.gl (T.c.d.fact 59 (f := .glo "shelf") rfl)
theorem g_look (T : Txt K mg) : mg "look" = some (.ref (He.ga K "look")) := T.gl (T.c.d.fact 60 (f := .glo "look") rfl)
theorem g_marks (T : Txt K mg) : mg "marks" = some (.ref (He.ga K "marks")) := T.gl (T.c.d.fact 61 (f := .glo "marks") rfl)
theorem g_sums (T : Txt K mg) : mg "sums" = some (.ref (He.ga K "sums")) := T.gl (T.c.d.fact 62 (f := .glo "sums") rfl)
theorem g_state (T : Txt K mg) : mg "state" = some (.ref (He.ga K "state")) := T.gl (T.c.d.fact 63 (f := .glo "state") rfl)
theorem g_rows_at (T : Txt K mg) : mg "rows_at" = some (.ref (He.ga K "rows_at")) := T.gl (T.c.d.fact 64 (f := .glo "rows_at") rfl)
theorem g_answer_to (T : Txt K mg) : mg "answer_to" = some (.ref (He.ga K "answer_to")) := T.gl (T.c.d.fact 65 (f := .glo "answer_to") rfl)
theorem g_answers (T : Txt K mg) : mg "answers" = some (.ref (He.ga K "answers")) := T.gl (T.c.d.fact 66 (f := .glo "answers") rfl)
theorem g_Work (T : Txt K mg) : mg "Work" = some (.ref (He.ga K "Work")) := T.gl (T.c.d.fact 67 (f := .glo "Work") rfl)
theorem g_Kit (T : Txt K mg) : mg "Kit" = some (.ref (He.ga K "Kit")) := T.gl (T.c.d.fact 68 (f := .glo "Kit") rfl)
theorem g_Hiring (T : Txt K mg) : mg "Hiring" = some (.ref (He.ga K "Hiring")) := T.gl (T.c.d.fact 69 (f := .glo "Hiring") rfl)
theorem g_Library (T : Txt K mg) : mg "Library" = some (.ref (He.ga K "Library")) := T.gl (T.c.d.fact 70 (f := .glo "Library") rfl)
theorem g_DEEDS (T : Txt K mg) : mg "DEEDS" = some (.ref (He.ga K "DEEDS")) := T.gl (T.c.d.fact 71 (f := .glo "DEEDS") rfl)
theorem g_PLAIN (T : Txt K mg) : mg "PLAIN" = some (.ref (He.ga K "PLAIN")) := T.gl (T.c.d.fact 72 (f := .glo "PLAIN") rfl)
theorem g_ROWS (T : Txt K mg) : mg "ROWS" = some (.ref (He.ga K "ROWS")) := T.gl (T.c.d.fact 73 (f := .glo "ROWS") rfl)
theorem NONE_SUCH (T : Txt K mg) : ∃ t, mg "NONE_SUCH" = some (.int (-2) t) := T.ci (T.c.d.fact 74 (f := .int "NONE_SUCH" (-2)) rfl)
theorem NOTHING (T : Txt K mg) : ∃ t, mg "NOTHING" = some (.int (-6) t) := T.ci (T.c.d.fact 75 (f := .int "NOTHING" (-6)) rfl)
theorem NOT_BEGUN (T : Txt K mg) : ∃ t, mg "NOT_BEGUN" = some (.int (-11) t) := T.ci (T.c.d.fact 76 (f := .int "NOT_BEGUN" (-11)) rfl)
theorem LACKS_PART (T : Txt K mg) : ∃ t, mg "LACKS_PART" = some (.int (-12) t) := T.ci (T.c.d.fact 77 (f := .int "LACKS_PART" (-12)) rfl)
theorem NOT_YET (T : Txt K mg) : ∃ t, mg "NOT_YET" = some (.int (-13) t) := T.ci (T.c.d.fact 78 (f := .int "NOT_YET" (-13)) rfl)
theorem NOT_SO (T : Txt K mg) : ∃ t, mg "NOT_SO" = some (.int (-16) t) := T.ci (T.c.d.fact 79 (f := .int "NOT_SO" (-16)) rfl)
theorem ALREADY (T : Txt K mg) : ∃ t, mg "ALREADY" = some (.int (-17) t) := T.ci (T.c.d.fact 80 (f := .int "ALREADY" (-17)) rfl)
theorem IS_MARKED (T : Txt K mg) : ∃ t, mg "IS_MARKED" = some (.int (-19) t) := T.ci (T.c.d.fact 81 (f := .int "IS_MARKED" (-19)) rfl)
theorem OUT_OF_RANGE (T : Txt K mg) : ∃ t, mg "OUT_OF_RANGE" = some (.int (-22) t) := T.ci (T.c.d.fact 82 (f := .int "OUT_OF_RANGE" (-22)) rfl)
theorem TOO_MANY (T : Txt K mg) : ∃ t, mg "TOO_MANY" = some (.int (-28) t) := T.ci (T.c.d.fact 83 (f := .int "TOO_MANY" (-28)) rfl)
theorem CANNOT_BE (T : Txt K mg) : ∃ t, mg "CANNOT_BE" = some (.int (-33) t) := T.ci (T.c.d.fact 84 (f := .int "CANNOT_BE" (-33)) rfl)
theorem BOOKED (T : Txt K mg) : ∃ t, mg "BOOKED" = some (.int (0) t) := T.ci (T.c.d.fact 85 (f := .int "BOOKED" (0)) rfl)
theorem OUT (T : Txt K mg) : ∃ t, mg "OUT" = some (.int (1) t) := T.ci (T.c.d.fact 86 (f := .int "OUT" (1)) rfl)
theorem BACK (T : Txt K mg) : ∃ t, mg "BACK" = some (.int (2) t) := T.ci (T.c.d.fact 87 (f := .int "BACK" (2)) rfl)
theorem OFF (T : Txt K mg) : ∃ t, mg "OFF" = some (.int (3) t) := T.ci (T.c.d.fact 88 (f := .int "OFF" (3)) rfl)
theorem SECTIONS (T : Txt K mg) : ∃ t, mg "SECTIONS" = some (.int (5) t) := T.ci (T.c.d.fact 89 (f := .int "SECTIONS" (5)) rfl)
theorem NO_HIRING (T : Txt K mg) : ∃ t, mg "NO_HIRING" = some (.int (-1) t) := T.ci (T.c.d.fact 90 (f := .int "NO_HIRING" (-1)) rfl)
theorem MOST_DAYS (T : Txt K mg) : ∃ t, mg "MOST_DAYS" = some (.int (60) t) := T.ci (T.c.d.fact 91 (f := .int "MOST_DAYS" (60)) rfl)
theorem END_OF_DAYS (T : Txt K mg) : ∃ t, mg "END_OF_DAYS" = some (.int (1000) t) := T.ci (T.c.d.fact 92 (f := .int "END_OF_DAYS" (1000)) rfl)
theorem MOST_CONCERTS (T : Txt K mg) : ∃ t, mg "MOST_CONCERTS" = some (.int (20) t) := T.ci (T.c.d.fact 93 (f := .int "MOST_CONCERTS" (20)) rfl)
theorem MOST_HIRINGS (T : Txt K mg) : ∃ t, mg "MOST_HIRINGS" = some (.int (40) t) := T.ci (T.c.d.fact 94 (f := .int "MOST_HIRINGS" (40)) rfl)
theorem MOST_TURN (T : Txt K mg) : ∃ t, mg "MOST_TURN" = some (.int (14) t) := T.ci (T.c.d.fact 95 (f := .int "MOST_TURN" (14)) rfl)
theorem MOST_FINE (T : Txt K mg) : ∃ t, mg "MOST_FINE" = some (.int (1000) t) := T.ci (T.c.d.fact 96 (f := .int "MOST_FINE" (1000)) rfl)
theorem MOST_WINDS (T : Txt K mg) : ∃ t, mg "MOST_WINDS" = some (.int (30) t) := T.ci (T.c.d.fact 97 (f := .int "MOST_WINDS" (30)) rfl)
theorem MOST_FEE (T : Txt K mg) : ∃ t, mg "MOST_FEE" = some (.int (10000) t) := T.ci (T.c.d.fact 98 (f := .int "MOST_FEE" (10000)) rfl)
theorem MOST_PRICE (T : Txt K mg) : ∃ t, mg "MOST_PRICE" = some (.int (1000) t) := T.ci (T.c.d.fact 99 (f := .int "MOST_PRICE" (1000)) rfl)
theorem MOST_WORKS (T : Txt K mg) : ∃ t, mg "MOST_WORKS" = some (.int (8) t) := T.ci (T.c.d.fact 100 (f := .int "MOST_WORKS" (8)) rfl)
theorem MOST_KITS (T : Txt K mg) : ∃ t, mg "MOST_KITS" = some (.int (12) t) := T.ci (T.c.d.fact 101 (f := .int "MOST_KITS" (12)) rfl)
theorem MOST_LOOSE (T : Txt K mg) : ∃ t, mg "MOST_LOOSE" = some (.int (60) t) := T.ci (T.c.d.fact 102 (f := .int "MOST_LOOSE" (60)) rfl)
theorem MOST_PUT (T : Txt K mg) : ∃ t, mg "MOST_PUT" = some (.int (20) t) := T.ci (T.c.d.fact 103 (f := .int "MOST_PUT" (20)) rfl)
theorem MOST_STEP (T : Txt K mg) : ∃ t, mg "MOST_STEP" = some (.int (60) t) := T.ci (T.c.d.fact 104 (f := .int "MOST_STEP" (60)) rfl)
theorem LAST_ASKED (T : Txt K mg) : ∃ t, mg "LAST_ASKED" = some (.int (1100) t) := T.ci (T.c.d.fact 105 (f := .int "LAST_ASKED" (1100)) rfl)
theorem BEGIN (T : Txt K mg) : ∃ t, mg "BEGIN" = some (.int (0) t) := T.ci (T.c.d.fact 106 (f := .int "BEGIN" (0)) rfl)
theorem len (T : Txt K mg) : mg "len" = none := T.fr (T.c.d.fact 107 (f := .free "len") rfl)
theorem all (T : Txt K mg) : mg "all" = none := T.fr (T.c.d.fact 108 (f := .free "all") rfl)
theorem any (T : Txt K mg) : mg "any" = none := T.fr (T.c.d.fact 109 (f := .free "any") rfl)
theorem range (T : Txt K mg) : mg "range" = none := T.fr (T.c.d.fact 110 (f := .free "range") rfl)
theorem enumerate (T : Txt K mg) : mg "enumerate" = none := T.fr (T.c.d.fact 111 (f := .free "enumerate") rfl)
theorem list (T : Txt K mg) : mg "list" = none := T.fr (T.c.d.fact 112 (f := .free "list") rfl)
theorem max (T : Txt K mg) : mg "max" = none := T.fr (T.c.d.fact 113 (f := .free "max") rfl)
theorem min (T : Txt K mg) : mg "min" = none := T.fr (T.c.d.fact 114 (f := .free "min") rfl)
theorem sum (T : Txt K mg) : mg "sum" = none := T.fr (T.c.d.fact 115 (f := .free "sum") rfl)
theorem sorted (T : Txt K mg) : mg "sorted" = none := T.fr (T.c.d.fact 116 (f := .free "sorted") rfl)
theorem int (T : Txt K mg) : mg "int" = none := T.fr (T.c.d.fact 117 (f := .free "int") rfl)
theorem c_Work (T : Txt K mg) : Cls K (He.ga K "Work") := He.cls_ok (T.c.d.fact 118 (f := .cls "Work") rfl)
theorem m_Work (T : Txt K mg) : Mk K (He.ga K "Work") (He.ma K (He.ga K "Work") "__init__") := He.mkr_ok (T.c.d.fact 119 (f := .mkr "Work") rfl)
theorem n_Work_winds (T : Txt K mg) : NoAttr K (He.ga K "Work") "winds" := He.noat_ok (T.c.d.fact 120 (f := .noat "Work" "winds") rfl)
theorem n_Work_fee (T : Txt K mg) : NoAttr K (He.ga K "Work") "fee" := He.noat_ok (T.c.d.fact 121 (f := .noat "Work" "fee") rfl)
theorem n_Work_more (T : Txt K mg) : NoAttr K (He.ga K "Work") "more" := He.noat_ok (T.c.d.fact 122 (f := .noat "Work" "more") rfl)
theorem n_Work_price (T : Txt K mg) : NoAttr K (He.ga K "Work") "price" := He.noat_ok (T.c.d.fact 123 (f := .noat "Work" "price") rfl)
theorem n_Work_loose (T : Txt K mg) : NoAttr K (He.ga K "Work") "loose" := He.noat_ok (T.c.d.fact 124 (f := .noat "Work" "loose") rfl)
theorem c_Kit (T : Txt K mg) : Cls K (He.ga K "Kit") := He.cls_ok (T.c.d.fact 125 (f := .cls "Kit") rfl)
theorem m_Kit (T : Txt K mg) : Mk K (He.ga K "Kit") (He.ma K (He.ga K "Kit") "__init__") := He.mkr_ok (T.c.d.fact 126 (f := .mkr "Kit") rfl)
theorem n_Kit_work (T : Txt K mg) : NoAttr K (He.ga K "Kit") "work" := He.noat_ok (T.c.d.fact 127 (f := .noat "Kit" "work") rfl)
theorem n_Kit_strings (T : Txt K mg) : NoAttr K (He.ga K "Kit") "strings" := He.noat_ok (T.c.d.fact 128 (f := .noat "Kit" "strings") rfl)
theorem n_Kit_missing (T : Txt K mg) : NoAttr K (He.ga K "Kit") "missing" := He.noat_ok (T.c.d.fact 129 (f := .noat "Kit" "missing") rfl)
theorem n_Kit_gone (T : Txt K mg) : NoAttr K (He.ga K "Kit") "gone" := He.noat_ok (T.c.d.fact 130 (f := .noat "Kit" "gone") rfl)
theorem n_Kit_marked (T : Txt K mg) : NoAttr K (He.ga K "Kit") "marked" := He.noat_ok (T.c.d.fact 131 (f := .noat "Kit" "marked") rfl)
theorem c_Hiring (T : Txt K mg) : Cls K (He.ga K "Hiring") := He.cls_ok (T.c.d.fact 132 (f := .cls "Hiring") rfl)
theorem m_Hiring (T : Txt K mg) : Mk K (He.ga K "Hiring") (He.ma K (He.ga K "Hiring") "__init__") := He.mkr_ok (T.c.d.fact 133 (f := .mkr "Hiring") rfl)
theorem n_Hiring_work (T : Txt K mg) : NoAttr K (He.ga K "Hiring") "work" := He.noat_ok (T.c.d.fact 134 (f := .noat "Hiring" "work") rfl)
theorem n_Hiring_first (T : Txt K mg) : NoAttr K (He.ga K "Hiring") "first" := He.noat_ok (T.c.d.fact 135 (f := .noat "Hiring" "first") rfl)
theorem n_Hiring_spell (T : Txt K mg) : NoAttr K (He.ga K "Hiring") "spell" := He.noat_ok (T.c.d.fact 136 (f := .noat "Hiring" "spell") rfl)
theorem n_Hiring_concerts (T : Txt K mg) : NoAttr K (He.ga K "Hiring") "concerts" := He.noat_ok (T.c.d.fact 137 (f := .noat "Hiring" "concerts") rfl)
theorem n_Hiring_clean (T : Txt K mg) : NoAttr K (He.ga K "Hiring") "clean" := He.noat_ok (T.c.d.fact 138 (f := .noat "Hiring" "clean") rfl)
theorem n_Hiring_desks (T : Txt K mg) : NoAttr K (He.ga K "Hiring") "desks" := He.noat_ok (T.c.d.fact 139 (f := .noat "Hiring" "desks") rfl)
theorem n_Hiring_kit (T : Txt K mg) : NoAttr K (He.ga K "Hiring") "kit" := He.noat_ok (T.c.d.fact 140 (f := .noat "Hiring" "kit") rfl)
theorem n_Hiring_put (T : Txt K mg) : NoAttr K (He.ga K "Hiring") "put" := He.noat_ok (T.c.d.fact 141 (f := .noat "Hiring" "put") rfl)
theorem n_Hiring_how (T : Txt K mg) : NoAttr K (He.ga K "Hiring") "how" := He.noat_ok (T.c.d.fact 142 (f := .noat "Hiring" "how") rfl)
theorem c_Library (T : Txt K mg) : Cls K (He.ga K "Library") := He.cls_ok (T.c.d.fact 143 (f := .cls "Library") rfl)
theorem m_Library (T : Txt K mg) : Mk K (He.ga K "Library") (He.ma K (He.ga K "Library") "__init__") := He.mkr_ok (T.c.d.fact 144 (f := .mkr "Library") rfl)
theorem n_Library_is_begun (T : Txt K mg) : NoAttr K (He.ga K "Library") "is_begun" := He.noat_ok (T.c.d.fact 145 (f := .noat "Library" "is_begun") rfl)
theorem n_Library_turn (T : Txt K mg) : NoAttr K (He.ga K "Library") "turn" := He.noat_ok (T.c.d.fact 146 (f := .noat "Library" "turn") rfl)
theorem n_Library_fine (T : Txt K mg) : NoAttr K (He.ga K "Library") "fine" := He.noat_ok (T.c.d.fact 147 (f := .noat "Library" "fine") rfl)
theorem n_Library_today (T : Txt K mg) : NoAttr K (He.ga K "Library") "today" := He.noat_ok (T.c.d.fact 148 (f := .noat "Library" "today") rfl)
theorem n_Library_works (T : Txt K mg) : NoAttr K (He.ga K "Library") "works" := He.noat_ok (T.c.d.fact 149 (f := .noat "Library" "works") rfl)
theorem n_Library_kits (T : Txt K mg) : NoAttr K (He.ga K "Library") "kits" := He.noat_ok (T.c.d.fact 150 (f := .noat "Library" "kits") rfl)
theorem n_Library_hirings (T : Txt K mg) : NoAttr K (He.ga K "Library") "hirings" := He.noat_ok (T.c.d.fact 151 (f := .noat "Library" "hirings") rfl)
theorem n_Library_paid (T : Txt K mg) : NoAttr K (He.ga K "Library") "paid" := He.noat_ok (T.c.d.fact 152 (f := .noat "Library" "paid") rfl)
theorem n_Library_replaced (T : Txt K mg) : NoAttr K (He.ga K "Library") "replaced" := He.noat_ok (T.c.d.fact 153 (f := .noat "Library" "replaced") rfl)
theorem f_init_Work (T : Txt K mg) : ∃ fd, FnP K "__init__" "Work.__init__" s_init_Work (He.ma K (He.ga K "Work") "__init__") fd := T.c.d.def_ 0 (d := d_init_Work) rfl
theorem f_init_Kit (T : Txt K mg) : ∃ fd, FnP K "__init__" "Kit.__init__" s_init_Kit (He.ma K (He.ga K "Kit") "__init__") fd := T.c.d.def_ 1 (d := d_init_Kit) rfl
theorem f_init_Hiring (T : Txt K mg) : ∃ fd, FnP K "__init__" "Hiring.__init__" s_init_Hiring (He.ma K (He.ga K "Hiring") "__init__") fd := T.c.d.def_ 2 (d := d_init_Hiring) rfl
theorem f_init_Library (T : Txt K mg) : ∃ fd, FnP K "__init__" "Library.__init__" s_init_Library (He.ma K (He.ga K "Library") "__init__") fd := T.c.d.def_ 3 (d := d_init_Library) rfl
theorem f_are_parts (T : Txt K mg) : ∃ fd, FnP K "are_parts" "are_parts" s_are_parts (He.ga K "are_parts") fd := T.c.d.def_ 4 (d := d_are_parts) rfl
theorem f_there_of (T : Txt K mg) : ∃ fd, FnP K "there_of" "there_of" s_there_of (He.ga K "there_of") fd := T.c.d.def_ 5 (d := d_there_of) rfl
theorem f_last_day (T : Txt K mg) : ∃ fd, FnP K "last_day" "last_day" s_last_day (He.ga K "last_day") fd := T.c.d.def_ 6 (d := d_last_day) rfl
theorem f_is_on (T : Txt K mg) : ∃ fd, FnP K "is_on" "is_on" s_is_on (He.ga K "is_on") fd := T.c.d.def_ 7 (d := d_is_on) rfl
theorem f_over_day (T : Txt K mg) : ∃ fd, FnP K "over_day" "over_day" s_over_day (He.ga K "over_day") fd := T.c.d.def_ 8 (d := d_over_day) rfl
theorem f_has_on (T : Txt K mg) : ∃ fd, FnP K "has_on" "has_on" s_has_on (He.ga K "has_on") fd := T.c.d.def_ 9 (d := d_has_on) rfl
theorem f_late_by (T : Txt K mg) : ∃ fd, FnP K "late_by" "late_by" s_late_by (He.ga K "late_by") fd := T.c.d.def_ 10 (d := d_late_by) rfl
theorem f_is_out (T : Txt K mg) : ∃ fd, FnP K "is_out" "is_out" s_is_out (He.ga K "is_out") fd := T.c.d.def_ 11 (d := d_is_out) rfl
theorem f_others_of (T : Txt K mg) : ∃ fd, FnP K "others_of" "others_of" s_others_of (He.ga K "others_of") fd := T.c.d.def_ 12 (d := d_others_of) rfl
theorem f_free_on (T : Txt K mg) : ∃ fd, FnP K "free_on" "free_on" s_free_on (He.ga K "free_on") fd := T.c.d.def_ 13 (d := d_free_on) rfl
theorem f_least_free (T : Txt K mg) : ∃ fd, FnP K "least_free" "least_free" s_least_free (He.ga K "least_free") fd := T.c.d.def_ 14 (d := d_least_free) rfl
theorem f_are_enough (T : Txt K mg) : ∃ fd, FnP K "are_enough" "are_enough" s_are_enough (He.ga K "are_enough") fd := T.c.d.def_ 15 (d := d_are_enough) rfl
theorem f_lack_of (T : Txt K mg) : ∃ fd, FnP K "lack_of" "lack_of" s_lack_of (He.ga K "lack_of") fd := T.c.d.def_ 16 (d := d_lack_of) rfl
theorem f_extra_of (T : Txt K mg) : ∃ fd, FnP K "extra_of" "extra_of" s_extra_of (He.ga K "extra_of") fd := T.c.d.def_ 17 (d := d_extra_of) rfl
theorem f_is_kit_free (T : Txt K mg) : ∃ fd, FnP K "is_kit_free" "is_kit_free" s_is_kit_free (He.ga K "is_kit_free") fd := T.c.d.def_ 18 (d := d_is_kit_free) rfl
theorem f_end_of (T : Txt K mg) : ∃ fd, FnP K "end_of" "end_of" s_end_of (He.ga K "end_of") fd := T.c.d.def_ 19 (d := d_end_of) rfl
theorem f_does (T : Txt K mg) : ∃ fd, FnP K "does" "does" s_does (He.ga K "does") fd := T.c.d.def_ 20 (d := d_does) rfl
theorem f_free_for (T : Txt K mg) : ∃ fd, FnP K "free_for" "free_for" s_free_for (He.ga K "free_for") fd := T.c.d.def_ 21 (d := d_free_for) rfl
theorem f_that_do (T : Txt K mg) : ∃ fd, FnP K "that_do" "that_do" s_that_do (He.ga K "that_do") fd := T.c.d.def_ 22 (d := d_that_do) rfl
theorem f_rank_of (T : Txt K mg) : ∃ fd, FnP K "rank_of" "rank_of" s_rank_of (He.ga K "rank_of") fd := T.c.d.def_ 23 (d := d_rank_of) rfl
theorem f_best_of (T : Txt K mg) : ∃ fd, FnP K "best_of" "best_of" s_best_of (He.ga K "best_of") fd := T.c.d.def_ 24 (d := d_best_of) rfl
theorem f_are_days_right (T : Txt K mg) : ∃ fd, FnP K "are_days_right" "are_days_right" s_are_days_right (He.ga K "are_days_right") fd := T.c.d.def_ 25 (d := d_are_days_right) rfl
theorem f_hire (T : Txt K mg) : ∃ fd, FnP K "hire" "hire" s_hire (He.ga K "hire") fd := T.c.d.def_ 26 (d := d_hire) rfl
theorem f_cancel (T : Txt K mg) : ∃ fd, FnP K "cancel" "cancel" s_cancel (He.ga K "cancel") fd := T.c.d.def_ 27 (d := d_cancel) rfl
theorem f_swap (T : Txt K mg) : ∃ fd, FnP K "swap" "swap" s_swap (He.ga K "swap") fd := T.c.d.def_ 28 (d := d_swap) rfl
theorem f_is_in_way (T : Txt K mg) : ∃ fd, FnP K "is_in_way" "is_in_way" s_is_in_way (He.ga K "is_in_way") fd := T.c.d.def_ 29 (d := d_is_in_way) rfl
theorem f_is_any_in_way (T : Txt K mg) : ∃ fd, FnP K "is_any_in_way" "is_any_in_way" s_is_any_in_way (He.ga K "is_any_in_way") fd := T.c.d.def_ 30 (d := d_is_any_in_way) rfl
theorem f_longer (T : Txt K mg) : ∃ fd, FnP K "longer" "longer" s_longer (He.ga K "longer") fd := T.c.d.def_ 31 (d := d_longer) rfl
theorem f_slack (T : Txt K mg) : ∃ fd, FnP K "slack" "slack" s_slack (He.ga K "slack") fd := T.c.d.def_ 32 (d := d_slack) rfl
theorem f_begin (T : Txt K mg) : ∃ fd, FnP K "begin" "begin" s_begin (He.ga K "begin") fd := T.c.d.def_ 33 (d := d_begin) rfl
theorem f_put_work (T : Txt K mg) : ∃ fd, FnP K "put_work" "put_work" s_put_work (He.ga K "put_work") fd := T.c.d.def_ 34 (d := d_put_work) rfl
theorem f_put_kit (T : Txt K mg) : ∃ fd, FnP K "put_kit" "put_kit" s_put_kit (He.ga K "put_kit") fd := T.c.d.def_ 35 (d := d_put_kit) rfl
theorem f_put_loose (T : Txt K mg) : ∃ fd, FnP K "put_loose" "put_loose" s_put_loose (He.ga K "put_loose") fd := T.c.d.def_ 36 (d := d_put_loose) rfl
theorem f_why_not_sent (T : Txt K mg) : ∃ fd, FnP K "why_not_sent" "why_not_sent" s_why_not_sent (He.ga K "why_not_sent") fd := T.c.d.def_ 37 (d := d_why_not_sent) rfl
theorem f_sent_of (T : Txt K mg) : ∃ fd, FnP K "sent_of" "sent_of" s_sent_of (He.ga K "sent_of") fd := T.c.d.def_ 38 (d := d_sent_of) rfl
theorem f_send (T : Txt K mg) : ∃ fd, FnP K "send" "send" s_send (He.ga K "send") fd := T.c.d.def_ 39 (d := d_send) rfl
theorem f_are_winds (T : Txt K mg) : ∃ fd, FnP K "are_winds" "are_winds" s_are_winds (He.ga K "are_winds") fd := T.c.d.def_ 40 (d := d_are_winds) rfl
theorem f_are_lost (T : Txt K mg) : ∃ fd, FnP K "are_lost" "are_lost" s_are_lost (He.ga K "are_lost") fd := T.c.d.def_ 41 (d := d_are_lost) rfl
theorem f_bill_of (T : Txt K mg) : ∃ fd, FnP K "bill_of" "bill_of" s_bill_of (He.ga K "bill_of") fd := T.c.d.def_ 42 (d := d_bill_of) rfl
theorem f_lose_strings (T : Txt K mg) : ∃ fd, FnP K "lose_strings" "lose_strings" s_lose_strings (He.ga K "lose_strings") fd := T.c.d.def_ 43 (d := d_lose_strings) rfl
theorem f_back (T : Txt K mg) : ∃ fd, FnP K "back" "back" s_back (He.ga K "back") fd := T.c.d.def_ 44 (d := d_back) rfl
theorem f_replace (T : Txt K mg) : ∃ fd, FnP K "replace" "replace" s_replace (He.ga K "replace") fd := T.c.d.def_ 45 (d := d_replace) rfl
theorem f_rub (T : Txt K mg) : ∃ fd, FnP K "rub" "rub" s_rub (He.ga K "rub") fd := T.c.d.def_ 46 (d := d_rub) rfl
theorem f_go_on (T : Txt K mg) : ∃ fd, FnP K "go_on" "go_on" s_go_on (He.ga K "go_on") fd := T.c.d.def_ 47 (d := d_go_on) rfl
theorem f_why_not_asked (T : Txt K mg) : ∃ fd, FnP K "why_not_asked" "why_not_asked" s_why_not_asked (He.ga K "why_not_asked") fd := T.c.d.def_ 48 (d := d_why_not_asked) rfl
theorem f_some_that_do (T : Txt K mg) : ∃ fd, FnP K "some_that_do" "some_that_do" s_some_that_do (He.ga K "some_that_do") fd := T.c.d.def_ 49 (d := d_some_that_do) rfl
theorem f_could (T : Txt K mg) : ∃ fd, FnP K "could" "could" s_could (He.ga K "could") fd := T.c.d.def_ 50 (d := d_could) rfl
theorem f_choices (T : Txt K mg) : ∃ fd, FnP K "choices" "choices" s_choices (He.ga K "choices") fd := T.c.d.def_ 51 (d := d_choices) rfl
theorem f_having_on (T : Txt K mg) : ∃ fd, FnP K "having_on" "having_on" s_having_on (He.ga K "having_on") fd := T.c.d.def_ 52 (d := d_having_on) rfl
theorem f_most (T : Txt K mg) : ∃ fd, FnP K "most" "most" s_most (He.ga K "most") fd := T.c.d.def_ 53 (d := d_most) rfl
theorem f_free (T : Txt K mg) : ∃ fd, FnP K "free" "free" s_free (He.ga K "free") fd := T.c.d.def_ 54 (d := d_free) rfl
theorem f_lacks (T : Txt K mg) : ∃ fd, FnP K "lacks" "lacks" s_lacks (He.ga K "lacks") fd := T.c.d.def_ 55 (d := d_lacks) rfl
theorem f_plan (T : Txt K mg) : ∃ fd, FnP K "plan" "plan" s_plan (He.ga K "plan") fd := T.c.d.def_ 56 (d := d_plan) rfl
theorem f_due (T : Txt K mg) : ∃ fd, FnP K "due" "due" s_due (He.ga K "due") fd := T.c.d.def_ 57 (d := d_due) rfl
theorem f_lost (T : Txt K mg) : ∃ fd, FnP K "lost" "lost" s_lost (He.ga K "lost") fd := T.c.d.def_ 58 (d := d_lost) rfl
theorem f_torn (T : Txt K mg) : ∃ fd, FnP K "torn" "torn" s_torn (He.ga K "torn") fd := T.c.d.def_ 59 (d := d_torn) rfl
theorem f_has (T : Txt K mg) : ∃ fd, FnP K "has" "has" s_has (He.ga K "has") fd := T.c.d.def_ 60 (d := d_has) rfl
theorem f_bill (T : Txt K mg) : ∃ fd, FnP K "bill" "bill" s_bill (He.ga K "bill") fd := T.c.d.def_ 61 (d := d_bill) rfl
theorem f_late (T : Txt K mg) : ∃ fd, FnP K "late" "late" s_late (He.ga K "late") fd := T.c.d.def_ 62 (d := d_late) rfl
theorem f_shelf (T : Txt K mg) : ∃ fd, FnP K "shelf" "shelf" s_shelf (He.ga K "shelf") fd := T.c.d.def_ 63 (d := d_shelf) rfl
theorem f_look (T : Txt K mg) : ∃ fd, FnP K "look" "look" s_look (He.ga K "look") fd := T.c.d.def_ 64 (d := d_look) rfl
theorem f_marks (T : Txt K mg) : ∃ fd, FnP K "marks" "marks" s_marks (He.ga K "marks") fd := T.c.d.def_ 65 (d := d_marks) rfl
theorem f_sums (T : Txt K mg) : ∃ fd, FnP K "sums" "sums" s_sums (He.ga K "sums") fd := T.c.d.def_ 66 (d := d_sums) rfl
theorem f_state (T : Txt K mg) : ∃ fd, FnP K "state" "state" s_state (He.ga K "state") fd := T.c.d.def_ 67 (d := d_state) rfl
theorem f_rows_at (T : Txt K mg) : ∃ fd, FnP K "rows_at" "rows_at" s_rows_at (He.ga K "rows_at") fd := T.c.d.def_ 68 (d := d_rows_at) rfl
theorem f_answer_to (T : Txt K mg) : ∃ fd, FnP K "answer_to" "answer_to" s_answer_to (He.ga K "answer_to") fd := T.c.d.def_ 69 (d := d_answer_to) rfl
theorem f_answers (T : Txt K mg) : ∃ fd, FnP K "answers" "answers" s_answers (He.ga K "answers") fd := T.c.d.def_ 70 (d := d_answers) rfl
theorem tabs (T : Txt K mg) : (He.tupB K "DEEDS" tb_DEEDS = true ∧ He.tupB K "PLAIN" tb_PLAIN = true ∧ He.tupB K "ROWS" tb_ROWS = true) := by
  have h := T.c.x
  unfold ex at h
  simp only [Bool.and_eq_true] at h
  exact ⟨h.1.1, h.1.2, h.2⟩
theorem DEEDS (T : Txt K mg) : mg "DEEDS" = some (.ref (He.ga K "DEEDS")) := T.g_DEEDS
theorem t_DEEDS (T : Txt K mg) (H : Hp) : SqT K H (He.ga K "DEEDS") (tb_DEEDS.map (He.Dv.v K)) := He.tupB_ok T.tabs.1 H
theorem PLAIN (T : Txt K mg) : mg "PLAIN" = some (.ref (He.ga K "PLAIN")) := T.g_PLAIN
theorem t_PLAIN (T : Txt K mg) (H : Hp) : SqT K H (He.ga K "PLAIN") (tb_PLAIN.map (He.Dv.v K)) := He.tupB_ok T.tabs.2.1 H
theorem ROWS (T : Txt K mg) : mg "ROWS" = some (.ref (He.ga K "ROWS")) := T.g_ROWS
theorem t_ROWS (T : Txt K mg) (H : Hp) : SqT K H (He.ga K "ROWS") (tb_ROWS.map (He.Dv.v K)) := He.tupB_ok T.tabs.2.2 H
end Txt
end Pl

set_option maxHeartbeats 0
namespace Pl
open PySem PySem.Spec PyProof.Rows L2
theorem run (w : World) : HeadRun.RunEqS PySem.Challenge.rw_partlibrary_s01_answers qv hk ob 6000 names w := by
  intro os
  kernel_rfl
end Pl

set_option maxHeartbeats 8000000
/-! ### what a reading evaluates to, told by a description of its value -/
namespace Pl
open PySem PySem.Spec PyProof.Rows L2
abbrev Ex := Evl.Ex
theorem Ex.refl (H : Hp) : Ex H H := Evl.Ex.refl H
theorem Ex.trans {G0 G1 G2 : Hp} (a : Ex G0 G1) (b : Ex G1 G2) : Ex G0 G2 := Evl.Ex.trans a b
theorem Ex.new {H : Hp} {p : Addr} {o : HO} (h : H p = none) : Ex H (upd H p o) := Evl.Ex.new h
theorem Ex.mut {H H' : Hp} {p : Addr} {o : HO} (e : Ex H H') (h : H p = none) : Ex H (upd H' p o) := Evl.Ex.mut e h
theorem fresh_back {H H' : Hp} {p : Addr} (e : Ex H H') (h : H' p = none) : H p = none := Evl.fresh_back e h
theorem fresh_ne {H : Hp} {p q : Addr} {o : HO} (h : H p = none) (h' : H q = some o) : q ≠ p := ne_of_none h' h
/-- a value told over the heap where its making begins and the heap behind -/
structure Dsc where
  is : Hp → V → Hp → Prop
  up : ∀ {G H H' : Hp} {v : V}, Ex H H' → is G v H → is G v H'
  dn : ∀ {G G' H : Hp} {v : V}, Ex G G' → is G' v H → is G v H
def dV (v : V) : Dsc := ⟨fun _ x _ => x = v, fun _ h => h, fun _ h => h⟩
/-- some list of these values -/
def dL (xs : List V) : Dsc := ⟨fun _ x H => ∃ p, x = .ref p ∧ H p = some (.lst xs), fun e ⟨p, h1, h2⟩ => ⟨p, h1, e _ _ h2⟩, fun _ h => h⟩
/-- a new list -/
def dN (xs : List V) : Dsc := ⟨fun G x H => ∃ p, x = .ref p ∧ G p = none ∧ H p = some (.lst xs), fun e ⟨p, h1, h2, h3⟩ => ⟨p, h1, h2, e _ _ h3⟩, fun e ⟨p, h1, h2, h3⟩ => ⟨p, h1, fresh_back e h2, h3⟩⟩
/-- some tuple of these -/
def dT (xs : List V) : Dsc := ⟨fun _ x H => ∃ p, x = .ref p ∧ H p = some (.tup xs), fun e ⟨p, h1, h2⟩ => ⟨p, h1, e _ _ h2⟩, fun _ h => h⟩
def Iss : List Dsc → Hp → List V → Hp → Prop
  | [], _, [], _ => True
  | d :: ds, G, v :: vs, H => d.is G v H ∧ Iss ds G vs H
  | _, _, _, _ => False
theorem Iss.up : ∀ {ds : List Dsc} {G H H' : Hp} {vs : List V}, Ex H H' → Iss ds G vs H → Iss ds G vs H'
  | [], _, _, _, [], _, _ => trivial
  | [], _, _, _, _ :: _, _, h => h.elim
  | _ :: _, _, _, _, [], _, h => h.elim
  | d :: ds, _, _, _, v :: vs, e, h => ⟨d.up e h.1, Iss.up e h.2⟩
theorem Iss.dn : ∀ {ds : List Dsc} {G G' H : Hp} {vs : List V}, Ex G G' → Iss ds G' vs H → Iss ds G vs H
  | [], _, _, _, [], _, _ => trivial
  | [], _, _, _, _ :: _, _, h => h.elim
  | _ :: _, _, _, _, [], _, h => h.elim
  | d :: ds, _, _, _, v :: vs, e, h => ⟨d.dn e h.1, Iss.dn e h.2⟩
theorem Iss.vals : ∀ {ws : List V} {G H : Hp} {vs : List V}, Iss (ws.map dV) G vs H → vs = ws
  | [], _, _, [], _ => rfl
  | [], _, _, _ :: _, h => h.elim
  | _ :: _, _, _, [], h => h.elim
  | w :: ws, _, _, v :: vs, h => by
    have h1 : v = w := h.1
    rw [h1, Iss.vals h.2]
theorem Iss.len : ∀ {ds : List Dsc} {G H : Hp} {vs : List V}, Iss ds G vs H → vs.length = ds.length
  | [], _, _, [], _ => rfl
  | [], _, _, _ :: _, h => h.elim
  | _ :: _, _, _, [], h => h.elim
  | d :: ds, _, _, v :: vs, h => congrArg (· + 1) (Iss.len h.2)
theorem Iss.snoc : ∀ {ds : List Dsc} {G H : Hp} {vs : List V} {d : Dsc} {v : V}, Iss ds G vs H → d.is G v H → Iss (ds ++ [d]) G (vs ++ [v]) H
  | [], _, _, [], _, _, _, h2 => ⟨h2, trivial⟩
  | [], _, _, _ :: _, _, _, h, _ => h.elim
  | _ :: _, _, _, [], _, _, h, _ => h.elim
  | d :: ds, _, _, v :: vs, _, _, h, h2 => ⟨h.1, Iss.snoc h.2 h2⟩
theorem Iss.get : ∀ {ds : List Dsc} {G H : Hp} {vs : List V} {i : Nat} {v : V}, Iss ds G vs H → vs[i]? = some v → ∃ d, ds[i]? = some d ∧ d.is G v H
  | [], _, _, [], i, v, _, e => by simp at e
  | [], _, _, _ :: _, _, _, h, _ => h.elim
  | _ :: _, _, _, [], _, _, h, _ => h.elim
  | d :: ds, _, _, x :: vs, 0, v, h, e => ⟨d, rfl, by
    have e' := Option.some.inj e
    rw [← e']
    exact h.1⟩
  | d :: ds, _, _, x :: vs, i + 1, v, h, e => by
    obtain ⟨d', e1, e2⟩ := Iss.get (i := i) (v := v) h.2 (by simpa using e)
    exact ⟨d', by simpa using e1, e2⟩
/-- a new list of values told by these -/
def dNs (ds : List Dsc) : Dsc := ⟨fun G x H => ∃ p xs, x = .ref p ∧ G p = none ∧ H p = some (.lst xs) ∧ Iss ds G xs H, fun e ⟨p, xs, h1, h2, h3, h4⟩ => ⟨p, xs, h1, h2, e _ _ h3, h4.up e⟩, fun e ⟨p, xs, h1, h2, h3, h4⟩ => ⟨p, xs, h1, fresh_back e h2, h3, h4.dn e⟩⟩

def Ev (te : TE) (σ : L2.St) (H : Hp) (d : Dsc) : Prop := ∀ H1, Ex H H1 → ∀ Q : VK, (∀ v H2, Ex H1 H2 → d.is H1 v H2 → Q v H2) → te σ H1 Q
abbrev EvT (tt : TT) (σ : L2.St) (H : Hp) (b : Bool) : Prop := Evl.EvT tt σ H b
def EvA (ta : TA) (σ : L2.St) (H : Hp) (ds : List Dsc) : Prop := ∀ H1, Ex H H1 → ∀ Q : List V → Hp → Prop, (∀ vs H2, Ex H1 H2 → Iss ds H1 vs H2 → Q vs H2) → ta σ H1 Q
/-- an attribute of the instance at a -/
def Fld (K : PySem.W.Frag) (H : Hp) (a : Addr) (f : Str) (v : V) : Prop := ∃ C dx fs, H a = some (.ins C dx fs) ∧ Cls K C ∧ NoAttr K C f ∧ fs.lookup f = some v
theorem Fld.up {K : PySem.W.Frag} {H H' : Hp} {a : Addr} {f : Str} {v : V} (h : Fld K H a f v) (e : Ex H H') : Fld K H' a f v := by
  obtain ⟨C, dx, fs, h1, h2, h3, h4⟩ := h
  exact ⟨C, dx, fs, e _ _ h1, h2, h3, h4⟩
/-- an attribute that holds a list -/
def FldL (K : PySem.W.Frag) (H : Hp) (a : Addr) (f : Str) (xs : List V) : Prop := ∃ p, Fld K H a f (.ref p) ∧ H p = some (.lst xs)
theorem FldL.up {K : PySem.W.Frag} {H H' : Hp} {a : Addr} {f : Str} {xs : List V} (h : FldL K H a f xs) (e : Ex H H') : FldL K H' a f xs := by
  obtain ⟨p, h1, h2⟩ := h
  exact ⟨p, h1.up e, e _ _ h2⟩
theorem sqL_up {K : PySem.W.Frag} {H H' : Hp} {a : Addr} {xs : List V} (e : Ex H H') (h : SqL K H a xs) : SqL K H' a xs := Evl.ex_l e h
theorem sqT_up {K : PySem.W.Frag} {H H' : Hp} {a : Addr} {xs : List V} (e : Ex H H') (h : SqT K H a xs) : SqT K H' a xs := Evl.ex_t e h
section
variable {K : PySem.W.Frag} {σ : L2.St} {H H' : Hp} {ta tb tc te : TE} {t u : TT} {d d' : Dsc} {x y z v : V} {i j : Int}
theorem Ev.mono (e : Ex H H') (h : Ev te σ H d) : Ev te σ H' d := fun H1 a Q q => h H1 (e.trans a) Q q
theorem EvT.mono {b : Bool} (e : Ex H H') (h : EvT t σ H b) : EvT t σ H' b := Evl.EvT.mono e h
theorem Ev.to (h : Ev te σ H d) (k : ∀ G v H2, Ex H G → Ex G H2 → d.is G v H2 → d'.is G v H2) : Ev te σ H d' := fun H1 e Q q => h H1 e Q fun v H2 e2 hv => q v H2 e2 (k H1 v H2 e e2 hv)
theorem Ev.is {w : V} (h : Ev te σ H (dV v)) (e : v = w) : Ev te σ H (dV w) := by rw [← e]; exact h
theorem EvT.is {a b : Bool} (h : EvT t σ H a) (e : a = b) : EvT t σ H b := by rw [← e]; exact h
theorem Ev.L {xs : List V} (h : Ev te σ H (dN xs)) : Ev te σ H (dL xs) := h.to fun _ _ _ _ _ ⟨p, h1, _, h3⟩ => ⟨p, h1, h3⟩
theorem Ev.N {xs : List V} (h : Ev te σ H (dNs (xs.map dV))) : Ev te σ H (dN xs) := h.to fun _ _ _ _ _ ⟨p, ys, h1, h2, h3, h4⟩ => by
  rw [Iss.vals h4] at h3
  exact ⟨p, h1, h2, h3⟩
theorem Ev.isN {xs ys : List V} (h : Ev te σ H (dN xs)) (e : xs = ys) : Ev te σ H (dN ys) := by rw [← e]; exact h
theorem Ev.isL {xs ys : List V} (h : Ev te σ H (dL xs)) (e : xs = ys) : Ev te σ H (dL ys) := by rw [← e]; exact h
theorem Ev.asL {p : Addr} {xs : List V} (h : Ev te σ H (dV (.ref p))) (hp : H p = some (.lst xs)) : Ev te σ H (dL xs) := h.to fun G v H2 e1 e2 hv => ⟨p, hv, e2 _ _ (e1 _ _ hp)⟩
theorem Ev.asT {p : Addr} {xs : List V} (h : Ev te σ H (dV (.ref p))) (hp : H p = some (.tup xs)) : Ev te σ H (dT xs) := h.to fun G v H2 e1 e2 hv => ⟨p, hv, e2 _ _ (e1 _ _ hp)⟩
theorem ev_var {k : Nat} (h : σ[k]? = some (some v)) : Ev (tVar k) σ H (dV v) := fun H1 _ _ q => ⟨v, h, q v H1 (Ex.refl H1) rfl⟩
theorem ev_c : Ev (tC v) σ H (dV v) := fun H1 _ _ q => q v H1 (Ex.refl H1) rfl
/-- a two-place operation on values -/
def RV (r : R2) (x y : V) (H : Hp) (z : V) : Prop := ∀ H1, Ex H H1 → ∀ Q : VK, Q z H1 → r x y H1 Q
theorem ev_op {r : R2} (ha : Ev ta σ H (dV x)) (hb : Ev tb σ H (dV y)) (hr : RV r x y H z) : Ev (tOp r ta tb) σ H (dV z) := fun H1 e Q q =>
  ha H1 e _ fun v H2 e2 hv => by
    subst hv
    exact hb H2 (e.trans e2) _ fun w H3 e3 hw => by
      subst hw
      exact hr H3 ((e.trans e2).trans e3) Q (q _ H3 (e2.trans e3) rfl)
theorem ev_I {g : Int → Int → V} (ha : Ev ta σ H (dV (.int i))) (hb : Ev tb σ H (dV (.int j))) : Ev (tOp (rI0 g) ta tb) σ H (dV (g i j)) := ev_op ha hb fun H1 _ _ q => ⟨i, j, rfl, rfl, q⟩
theorem ev_mul (ha : Ev ta σ H (dV (.int i))) (hb : Ev tb σ H (dV (.int j))) (hc : CMul i j) : Ev (tOp rMulI ta tb) σ H (dV (.int (i * j))) := ev_op ha hb fun H1 _ _ q => ⟨i, j, rfl, rfl, hc, q⟩
theorem dec_V {i j : Int} : decide (V.int i = V.int j) = decide (i = j) := decide_eq_decide.mpr ⟨fun h => V.int.inj h, fun h => congrArg V.int h⟩
theorem ev_eq (ha : Ev ta σ H (dV (.int i))) (hb : Ev tb σ H (dV (.int j))) : Ev (tOp rEq ta tb) σ H (dV (.bl (decide (i = j)))) := ev_op ha hb fun H1 _ Q q => ⟨rfl, by rw [dec_V]; exact q⟩
theorem ev_ne (ha : Ev ta σ H (dV (.int i))) (hb : Ev tb σ H (dV (.int j))) : Ev (tOp rNe ta tb) σ H (dV (.bl (!decide (i = j)))) := ev_op ha hb fun H1 _ Q q => ⟨rfl, by rw [dec_V]; exact q⟩
theorem ev_fld {a : Addr} {f : Str} (ha : Ev ta σ H (dV (.ref a))) (hf : Fld K H a f v) : Ev (tFld K ta f) σ H (dV v) := fun H1 e Q q =>
  ha H1 e _ fun w H2 e2 hw => by
    subst hw
    obtain ⟨C, dx, fs, h1, h2, h3, h4⟩ := hf
    exact ⟨a, C, dx, fs, v, rfl, e2 _ _ (e _ _ h1), h2, h3, h4, q v H2 e2 rfl⟩
theorem ev_fldL {a : Addr} {f : Str} {xs : List V} (ha : Ev ta σ H (dV (.ref a))) (hf : FldL K H a f xs) : Ev (tFld K ta f) σ H (dL xs) := by
  obtain ⟨p, h1, h2⟩ := hf
  exact (ev_fld ha h1).asL h2
theorem ev_ixL {p : Addr} {xs : List V} (ha : Ev ta σ H (dV (.ref p))) (hb : Ev tb σ H (dV (.int i))) (h : SqL K H p xs) (hat : atI xs i = some v) : Ev (tOp (rIxL K) ta tb) σ H (dV v) := ev_op ha hb fun H1 e _ q => ⟨p, xs, i, v, rfl, rfl, sqL_up e h, hat, q⟩
theorem ev_ixT {p : Addr} {xs : List V} (ha : Ev ta σ H (dV (.ref p))) (hb : Ev tb σ H (dV (.int i))) (h : SqT K H p xs) (hat : atI xs i = some v) : Ev (tOp (rIxT K) ta tb) σ H (dV v) := ev_op ha hb fun H1 e _ q => ⟨p, xs, i, v, rfl, rfl, sqT_up e h, hat, q⟩
theorem ev_ixD {xs : List V} (ha : Ev ta σ H (dL xs)) (hb : Ev tb σ H (dV (.int i))) (hat : atI xs i = some v) : Ev (tOp (rIxL K) ta tb) σ H (dV v) := fun H1 e Q q =>
  ha H1 e _ fun w H2 e2 ⟨p, h1, h2⟩ => hb H2 (e.trans e2) _ fun w2 H3 e3 hw => by
    subst h1 hw
    exact ⟨p, xs, i, v, rfl, rfl, SqL.of (e3 _ _ h2), hat, q v H3 (e2.trans e3) rfl⟩
theorem ev_ixTD {xs : List V} (ha : Ev ta σ H (dT xs)) (hb : Ev tb σ H (dV (.int i))) (hat : atI xs i = some v) : Ev (tOp (rIxT K) ta tb) σ H (dV v) := fun H1 e Q q =>
  ha H1 e _ fun w H2 e2 ⟨p, h1, h2⟩ => hb H2 (e.trans e2) _ fun w2 H3 e3 hw => by
    subst h1 hw
    exact ⟨p, xs, i, v, rfl, rfl, SqT.of (e3 _ _ h2), hat, q v H3 (e2.trans e3) rfl⟩
/-! tests -/
theorem et_test {b : Bool} (h : Ev te σ H (dV (.bl b))) : EvT (tTest te) σ H b := fun H1 e _ q => h H1 e _ fun v H2 e2 hv => ⟨b, hv, q H2 e2⟩
theorem et_B {b : Bool} (h : Ev te σ H (dV (.bl b))) : EvT (tB te) σ H b := fun H1 e _ q => h H1 e _ fun v H2 e2 hv => ⟨b, hv, q H2 e2⟩
theorem et_and {a b : Bool} (h1 : EvT t σ H a) (h2 : a = true → EvT u σ H b) : EvT (tAnd t u) σ H (a && b) := Evl.et_and h1 h2
theorem et_or {a b : Bool} (h1 : EvT t σ H a) (h2 : a = false → EvT u σ H b) : EvT (tOr t u) σ H (a || b) := Evl.et_or h1 h2
theorem et_not {a : Bool} (h1 : EvT t σ H a) : EvT (tNot t) σ H (!a) := Evl.et_not h1
theorem et_yes : EvT tYes σ H true := fun H1 _ _ q => q H1 (Ex.refl H1)
theorem ev_andV {a b : Bool} (h1 : Ev ta σ H (dV (.bl a))) (h2 : a = true → Ev tb σ H (dV (.bl b))) : Ev (tAndV ta tb) σ H (dV (.bl (a && b))) := fun H1 e Q q => h1 H1 e _ fun v H2 e2 hv => ⟨a, hv, by
  cases a with
  | true =>
    show tb σ H2 Q
    exact h2 rfl H2 (e.trans e2) Q fun w H3 e3 hw => q w H3 (e2.trans e3) hw
  | false =>
    show Q (.bl false) H2
    exact q _ H2 e2 rfl⟩
theorem ev_orV {a b : Bool} (h1 : Ev ta σ H (dV (.bl a))) (h2 : a = false → Ev tb σ H (dV (.bl b))) : Ev (tOrV ta tb) σ H (dV (.bl (a || b))) := fun H1 e Q q => h1 H1 e _ fun v H2 e2 hv => ⟨a, hv, by
  cases a with
  | true =>
    show Q (.bl true) H2
    exact q _ H2 e2 rfl
  | false =>
    show tb σ H2 Q
    exact h2 rfl H2 (e.trans e2) Q fun w H3 e3 hw => q w H3 (e2.trans e3) hw⟩
theorem ev_notV {a : Bool} (h1 : Ev ta σ H (dV (.bl a))) : Ev (tNotV ta) σ H (dV (.bl (!a))) := fun H1 e _ q => h1 H1 e _ fun v H2 e2 hv => ⟨a, hv, q _ H2 e2 rfl⟩
theorem ev_if {b : Bool} (h : EvT t σ H b) (h1 : b = true → Ev ta σ H d) (h2 : b = false → Ev tb σ H d) : Ev (tIf t ta tb) σ H d := fun H1 e Q q => h H1 e _ fun H2 e2 => by
  cases b with
  | true =>
    show ta σ H2 Q
    exact h1 rfl H2 (e.trans e2) Q fun w H3 e3 hw => q w H3 (e2.trans e3) (d.dn e2 hw)
  | false =>
    show tb σ H2 Q
    exact h2 rfl H2 (e.trans e2) Q fun w H3 e3 hw => q w H3 (e2.trans e3) (d.dn e2 hw)
/-- a chain of two comparisons of whole numbers -/
theorem ev_chain {k : Int} {p p' : Int → Int → Bool} (ha : Ev ta σ H (dV (.int i))) (hb : Ev tb σ H (dV (.int j))) (hc : Ev tc σ H (dV (.int k))) :
    Ev (tChain (rI0 fun i j => .bl (p i j)) (rI0 fun i j => .bl (p' i j)) ta tb tc) σ H (dV (.bl (p i j && p' j k))) := fun H1 e Q q =>
  ha H1 e _ fun v H2 e2 hv => by
    subst hv
    refine hb H2 (e.trans e2) _ fun w H3 e3 hw => ?_
    subst hw
    refine ⟨i, j, rfl, rfl, p i j, rfl, ?_⟩
    cases hp : p i j with
    | true =>
      show tc σ H3 _
      refine hc H3 ((e.trans e2).trans e3) _ fun x H4 e4 hx => ?_
      subst hx
      exact ⟨j, k, rfl, rfl, q _ H4 ((e2.trans e3).trans e4) (by rw [hp]; rfl)⟩
    | false =>
      show Q (.bl false) H3
      exact q _ H3 (e2.trans e3) (by rw [hp]; rfl)
/-! arguments -/
theorem ea_nil : EvA tNil σ H [] := fun H1 _ _ q => q [] H1 (Ex.refl H1) trivial
theorem ea_cons {tr : TA} {ds : List Dsc} (h : Ev ta σ H d) (hr : EvA tr σ H ds) : EvA (tCons ta tr) σ H (d :: ds) := fun H1 e _ q =>
  h H1 e _ fun v H2 e2 hv => hr H2 (e.trans e2) _ fun vs H3 e3 hvs => q _ H3 (e2.trans e3) ⟨d.up e3 hv, hvs.dn e2⟩
theorem el_lst {tr : TA} {vs : List V} (h : EvA tr σ H (vs.map dV)) (hl : vs.length ≤ 100000) : Ev (tLst tr) σ H (dN vs) := fun H1 e _ q =>
  h H1 e _ fun ws H2 e2 hw => by
    rw [Iss.vals hw]
    exact ⟨Evl.sz_of hl, fun p hp => q _ _ (e2.trans (Ex.new hp)) ⟨p, rfl, fresh_back e2 hp, upd_same⟩⟩
theorem eu_tup {tr : TA} {vs : List V} (h : EvA tr σ H (vs.map dV)) (hl : vs.length ≤ 100000) : Ev (tTup tr) σ H (dT vs) := fun H1 e _ q =>
  h H1 e _ fun ws H2 e2 hw => by
    rw [Iss.vals hw]
    exact ⟨Evl.sz_of hl, fun p hp => q _ _ (e2.trans (Ex.new hp)) ⟨p, rfl, upd_same⟩⟩
theorem el_lst1 (h : Ev ta σ H (dV v)) : Ev (tLst (tCons ta tNil)) σ H (dN [v]) := el_lst (vs := [v]) (ea_cons h ea_nil) (by show 1 ≤ 100000; decide)
theorem el_nil : Ev (tLst tNil) σ H (dN []) := el_lst (vs := []) ea_nil (by show 0 ≤ 100000; decide)
theorem el_cat {xs ys : List V} (ha : Ev ta σ H (dL xs)) (hb : Ev tb σ H (dL ys)) (hl : xs.length + ys.length ≤ 100000) : Ev (tOp rCat ta tb) σ H (dN (xs ++ ys)) := fun H1 e _ q =>
  ha H1 e _ fun v H2 e2 ⟨p, h1, h2⟩ => hb H2 (e.trans e2) _ fun w H3 e3 ⟨p', h3, h4⟩ => by
    subst h1 h3
    exact ⟨p, p', xs, ys, rfl, rfl, e3 _ _ h2, h4, Evl.sz_of hl, fun r hr => q _ _ ((e2.trans e3).trans (Ex.new hr)) ⟨r, rfl, fresh_back (e2.trans e3) hr, upd_same⟩⟩
theorem el_rep0 (hb : Ev tb σ H (dV (.int 5))) : Ev (tOp rRep (tLst (tCons (tC (.int 0)) tNil)) tb) σ H (dN (List.replicate 5 (.int 0))) := fun H1 e _ q =>
  (el_lst1 ev_c).L H1 e _ fun v H2 e2 ⟨p, h1, h2⟩ => hb H2 (e.trans e2) _ fun w H3 e3 hw => by
    subst h1 hw
    exact ⟨p, 5, _, rfl, rfl, e3 _ _ h2, by decide, by decide, by show 1 * 5 ≤ sizeLine; decide, fun r hr => q _ _ ((e2.trans e3).trans (Ex.new hr)) ⟨r, rfl, fresh_back (e2.trans e3) hr, upd_same⟩⟩
/-! built-ins -/
theorem ev_len {p : Addr} {xs : List V} (ha : Ev ta σ H (dV (.ref p))) (h : SqL K H p xs) : Ev (tCB (Evl.rLenS K) (tCons ta tNil)) σ H (dV (.int (xs.length : Int))) := fun H1 e Q q =>
  ha H1 e _ fun v H2 e2 hv => by
    subst hv
    exact ⟨p, xs, rfl, Or.inl (sqL_up (e.trans e2) h), q _ H2 e2 rfl⟩
theorem ev_lenD {xs : List V} (ha : Ev ta σ H (dL xs)) : Ev (tCB (Evl.rLenS K) (tCons ta tNil)) σ H (dV (.int (xs.length : Int))) := fun H1 e Q q =>
  ha H1 e _ fun v H2 e2 ⟨p, h1, h2⟩ => by
    subst h1
    exact ⟨p, xs, rfl, Or.inl (SqL.of h2), q _ H2 e2 rfl⟩
theorem el_listD {xs : List V} (ha : Ev ta σ H (dL xs)) : Ev (tCB (Evl.rListS K) (tCons ta tNil)) σ H (dN xs) := fun H1 e Q q =>
  ha H1 e _ fun v H2 e2 ⟨p, h1, h2⟩ => by
    subst h1
    exact ⟨p, xs, rfl, Or.inl (SqL.of h2), fun l hl => q _ _ (e2.trans (Ex.new hl)) ⟨l, rfl, fresh_back e2 hl, upd_same⟩⟩
theorem ev_max2 (ha : Ev ta σ H (dV (.int i))) (hb : Ev tb σ H (dV (.int j))) : Ev (tCB Evl.rMax2 (tCons ta (tCons tb tNil))) σ H (dV (.int (if j > i then j else i))) := fun H1 e Q q =>
  (ea_cons ha (ea_cons hb ea_nil)) H1 e _ fun vs H2 e2 hv => by
    have e3 : vs = [.int i, .int j] := Iss.vals (ws := [.int i, .int j]) hv
    exact ⟨i, j, e3, q _ H2 e2 rfl⟩
theorem ev_min2 (ha : Ev ta σ H (dV (.int i))) (hb : Ev tb σ H (dV (.int j))) : Ev (tCB rMin2 (tCons ta (tCons tb tNil))) σ H (dV (.int (if j < i then j else i))) := fun H1 e Q q =>
  (ea_cons ha (ea_cons hb ea_nil)) H1 e _ fun vs H2 e2 hv => by
    have e3 : vs = [.int i, .int j] := Iss.vals (ws := [.int i, .int j]) hv
    exact ⟨i, j, e3, q _ H2 e2 rfl⟩
theorem ev_all {bs : List Bool} (ha : Ev ta σ H (dL (bs.map .bl))) : Ev (tCB (rAll K) (tCons ta tNil)) σ H (dV (.bl (bs.all id))) := fun H1 e Q q =>
  ha H1 e _ fun v H2 e2 ⟨p, h1, h2⟩ => by
    subst h1
    exact ⟨p, bs, rfl, SqL.of h2, q _ H2 e2 rfl⟩
theorem ev_any {bs : List Bool} (ha : Ev ta σ H (dL (bs.map .bl))) : Ev (tCB (rAny K) (tCons ta tNil)) σ H (dV (.bl (bs.any id))) := fun H1 e Q q =>
  ha H1 e _ fun v H2 e2 ⟨p, h1, h2⟩ => by
    subst h1
    exact ⟨p, bs, rfl, SqL.of h2, q _ H2 e2 rfl⟩
theorem ev_sum {ns : List Int} (ha : Ev ta σ H (dL (ns.map .int))) : Ev (tCB (rSum K) (tCons ta tNil)) σ H (dV (.int ns.sum)) := fun H1 e Q q =>
  ha H1 e _ fun v H2 e2 ⟨p, h1, h2⟩ => by
    subst h1
    exact ⟨p, ns, rfl, SqL.of h2, q _ H2 e2 rfl⟩
theorem ev_int1 {b : Bool} (ha : Ev ta σ H (dV (.bl b))) : Ev (tCB rInt1 (tCons ta tNil)) σ H (dV (.int (if b then 1 else 0))) := fun H1 e Q q =>
  ha H1 e _ fun v H2 e2 hv => by
    subst hv
    exact Or.inr ⟨b, rfl, q _ H2 e2 rfl⟩
/-- == | != with the empty list, of a list of whole numbers -/
theorem dp_ints {H : Hp} : ∀ ns : List Int, DpAll K H (ns.map V.int) (ns.map PyData.int)
  | [] => .nil
  | n :: r => .cons (.int n) (dp_ints r)
theorem canLay_ints : ∀ ns : List Int, PyData.canLayAll0 (ns.map PyData.int) = true
  | [] => rfl
  | n :: r => by
    rw [List.map_cons]
    unfold PyData.canLayAll0
    rw [canLay_ints r]
    rfl
theorem shaped_ints (ns : List Int) : SeqAt.shaped (.list (ns.map PyData.int)) = true := by
  unfold SeqAt.shaped
  have h1 : (PyData.list (ns.map PyData.int)).canLay0 = true := by
    unfold PyData.canLay0
    exact canLay_ints ns
  have h2 : (PyData.list (ns.map PyData.int)).depth ≤ 64 := by
    unfold PyData.depth
    have := depthAll_ints ns
    omega
  rw [h1, decide_eq_true h2]
  rfl
theorem eqv_nil : ∀ ns : List Int, PyData.eqv (.list (ns.map PyData.int)) (.list []) = ns.isEmpty
  | [] => by simp [PyData.eqv, PyData.eqvAll]
  | n :: r => by simp [PyData.eqv, PyData.eqvAll]
theorem ev_eqNil {ns : List Int} (ha : Ev ta σ H (dL (ns.map .int))) : Ev (tOp (rEqD K) ta (tLst tNil)) σ H (dV (.bl ns.isEmpty)) := fun H1 e Q q =>
  ha H1 e _ fun v H2 e2 ⟨p, h1, h2⟩ => el_nil.L H2 (e.trans e2) _ fun w H3 e3 ⟨p', h3, h4⟩ => by
    subst h1 h3
    refine ⟨_, _, .lst (SqL.of (e3 _ _ h2)) (dp_ints ns), .lst (SqL.of h4) .nil, shaped_ints ns, shaped_ints [], ?_⟩
    have e5 := eqv_nil ns
    rw [e5]
    exact q _ H3 (e2.trans e3) rfl
theorem ev_neNil {ns : List Int} (ha : Ev ta σ H (dL (ns.map .int))) : Ev (tOp (rNeD K) ta (tLst tNil)) σ H (dV (.bl (!ns.isEmpty))) := fun H1 e Q q =>
  ha H1 e _ fun v H2 e2 ⟨p, h1, h2⟩ => el_nil.L H2 (e.trans e2) _ fun w H3 e3 ⟨p', h3, h4⟩ => by
    subst h1 h3
    refine ⟨_, _, .lst (SqL.of (e3 _ _ h2)) (dp_ints ns), .lst (SqL.of h4) .nil, shaped_ints ns, shaped_ints [], ?_⟩
    have e5 := eqv_nil ns
    rw [e5]
    exact q _ H3 (e2.trans e3) rfl
/-! calls -/
def Ret (d : Dsc) (H : Hp) (Q : VK) : Prop := ∀ v H2, Ex H H2 → d.is H v H2 → Q v H2
/-- the promise of a def that changes nothing: pre tells what it asks and what comes out -/
def Pu (pre : List V → Hp → Dsc → Prop) : Sp := fun vs H Q _ => ∃ d, pre vs H d ∧ Ret d H Q
theorem ev_callD {pre : List V → Hp → Dsc → Prop} {tr : TA} {ds : List Dsc} (ha : EvA tr σ H ds) (hp : ∀ vs H1, Ex H H1 → Iss ds H vs H1 → pre vs H1 d) : Ev (tCall (Pu pre) [] E0 tr) σ H d := fun H1 e Q q =>
  ha H1 e _ fun vs H2 e2 hv => by
    show Pu pre (vs ++ []) H2 Q E0
    rw [List.append_nil]
    exact ⟨d, hp vs H2 (e.trans e2) (hv.dn e), fun v H3 e3 h3 => q v H3 (e2.trans e3) (d.dn e2 h3)⟩
theorem ev_call {pre : List V → Hp → Dsc → Prop} {tr : TA} {vs : List V} (ha : EvA tr σ H (vs.map dV)) (hp : ∀ H1, Ex H H1 → pre vs H1 d) : Ev (tCall (Pu pre) [] E0 tr) σ H d :=
  ev_callD ha fun ws H1 e hw => by
    rw [Iss.vals hw]
    exact hp H1 e
/-! ### statements: where the returned value ends -/
structure Post where
  is : Hp → V → Hp → Prop
  dn : ∀ {G G' H : Hp} {v : V}, Ex G G' → is G' v H → is G v H
def Dsc.post (d : Dsc) : Post := ⟨fun G v H => Ex G H ∧ d.is G v H, fun e h => ⟨e.trans h.1, d.dn e h.2⟩⟩
def Go (t : TS) (σ : L2.St) (H : Hp) (P : Post) : Prop := ∀ H1, Ex H H1 → ∀ D : Ends, (∀ v H2, P.is H1 v H2 → D.rt v H2) → t D σ H1
variable {P : Post} {ts tr tw : TS}
theorem Go.mono (e : Ex H H') (h : Go ts σ H P) : Go ts σ H' P := fun H1 a D q => h H1 (e.trans a) D q
theorem go_ret (h : Ev te σ H d) : Go (tRet te) σ H d.post := fun H1 e D q => h H1 e _ fun v H2 e2 hv => q v H2 ⟨e2, hv⟩
theorem go_retP (h : Ev te σ H d) (k : ∀ G v H2, Ex H G → Ex G H2 → d.is G v H2 → P.is G v H2) : Go (tRet te) σ H P := fun H1 e D q => h H1 e _ fun v H2 e2 hv => q v H2 (k H1 v H2 e e2 hv)
theorem go_asg {n : Nat} (h : Ev te σ H (dV v)) (k : Go tr (σ.set n (some v)) H P) : Go (tSeq (tAsg te (gName n)) tr) σ H P := fun H1 e D q =>
  h H1 e _ fun w H2 e2 hw => by
    subst hw
    exact k H2 (e.trans e2) D fun w H3 h3 => q w H3 (P.dn e2 h3)
theorem go_asgD {n : Nat} (h : Ev te σ H d) (k : ∀ v H1, Ex H H1 → d.is H v H1 → Go tr (σ.set n (some v)) H1 P) : Go (tSeq (tAsg te (gName n)) tr) σ H P := fun H1 e D q =>
  h H1 e _ fun w H2 e2 hw => k w H2 (e.trans e2) (d.dn e hw) H2 (Ex.refl H2) D fun w H3 h3 => q w H3 (P.dn e2 h3)
/-- if: return .. -/
theorem go_if {b : Bool} (h : EvT t σ H b) (h1 : b = true → Go ts σ H P) (h2 : b = false → Go tr σ H P) : Go (tSeq (tIfS t ts tNext) tr) σ H P := fun H1 e D q =>
  h H1 e _ fun H2 e2 => by
    cases b with
    | true =>
      show ts { D with nx := tr D } σ H2
      exact h1 rfl H2 (e.trans e2) _ fun w H3 h3 => q w H3 (P.dn e2 h3)
    | false =>
      show tr D σ H2
      exact h2 rfl H2 (e.trans e2) D fun w H3 h3 => q w H3 (P.dn e2 h3)
/-- a, b, .. = a list -/
def setAll : L2.St → List Nat → List V → L2.St
  | σ, i :: is, v :: vs => setAll (σ.set i (some v)) is vs
  | σ, _, _ => σ
def gNames : List Nat → TGs
  | [] => gNil
  | i :: is => gCons (gName i) (gNames is)
theorem gNames_go : ∀ {is : List Nat} {vs : List V} {σ : L2.St} {H : Hp} {Q : L2.St → Hp → Prop}, is.length = vs.length → Q (setAll σ is vs) H → gNames is vs σ H Q
  | [], [], _, _, _, _, q => ⟨rfl, q⟩
  | [], _ :: _, _, _, _, h, _ => by cases h
  | _ :: _, [], _, _, _, h, _ => by cases h
  | i :: is, v :: vs, σ, H, Q, h, q => ⟨v, vs, rfl, gNames_go (is := is) (vs := vs) (Nat.succ.inj h) q⟩
theorem go_unpL {is : List Nat} {vs : List V} {m : Nat} (h : Ev te σ H (dL vs)) (hl : is.length = vs.length) (hm : m = vs.length) (k : Go tr (setAll σ is vs) H P) : Go (tSeq (tAsg te (gLst K m (gNames is))) tr) σ H P := fun H1 e D q =>
  h H1 e _ fun w H2 e2 ⟨p, h1, h2⟩ => by
    subst h1
    exact ⟨p, vs, rfl, SqL.of h2, hm.symm, gNames_go hl (k H2 (e.trans e2) D fun w H3 h3 => q w H3 (P.dn e2 h3))⟩
theorem go_fn {σ : L2.St} {Q : VK} (h : Go ts σ H d.post) (r : Ret d H Q) : ts { nx := fun _ H' => Q .non H', rt := Q } σ H := h H (Ex.refl H) _ fun v H2 h2 => r v H2 h2.1 h2.2
end
end Pl

/-! ### walks, comprehensions, loops that search -/
namespace Pl
open PySem PySem.Spec PyProof.Rows L2
def EvW (wi : TI) (σ : L2.St) (H : Hp) (n : Nat) (Y : Nat → Hp → V → Hp → Prop) : Prop :=
  ∀ H1, Ex H H1 → ∀ R : It → Hp → Prop, (∀ (J : It) (H2 : Hp) (G : Hp → Prop), Ex H1 H2 → Walk J n G Y → (∀ H', Ex H2 H' → G H') → R J H2) → wi σ H1 R
section
variable {K : PySem.W.Frag} {σ : L2.St} {H H' : Hp} {ta tb te tl : TE} {t u : TT} {d : Dsc} {x y z v : V} {i j : Int}
theorem ew_list {a : Addr} {xs : List V} (h : Ev tl σ H (dV (.ref a))) (hx : SqL K H a xs) : EvW (iList K tl) σ H xs.length (YAt xs) := fun H1 e R r =>
  h H1 e _ fun w H2 e2 hw => by
    subst hw
    have q : SqL K H2 a xs := sqL_up (e.trans e2) hx
    exact ⟨a, rfl, ⟨xs, q⟩, r (Itl K a) H2 _ e2 walk_list fun H3 e3 => sqL_up e3 q⟩
theorem ew_listD {xs : List V} (h : Ev tl σ H (dL xs)) : EvW (iList K tl) σ H xs.length (YAt xs) := fun H1 e R r =>
  h H1 e _ fun w H2 e2 ⟨a, h1, h2⟩ => by
    subst h1
    have q : SqL K H2 a xs := SqL.of h2
    exact ⟨a, rfl, ⟨xs, q⟩, r (Itl K a) H2 _ e2 walk_list fun H3 e3 => sqL_up e3 q⟩
theorem ew_range1 {n : Int} (h : Ev ta σ H (dV (.int n))) (hn : 0 ≤ n ∧ n ≤ 100000) : EvW (iRng1 (tCons ta tNil)) σ H n.toNat (YFn fun i => .int (i : Nat)) := fun H1 e R r =>
  (ea_cons h ea_nil) H1 e _ fun vs H2 e2 hv => by
    have e3 : vs = [.int n] := Iss.vals (ws := [.int n]) hv
    refine ⟨n, e3, by omega, by omega, r (Itr 0 n.toNat) H2 (fun _ => True) e2 (walk_range.mono (fun _ _ => trivial) fun i A x B _ _ y => ⟨y.1, ?_⟩) fun _ _ => trivial⟩
    rw [y.2]
    exact congrArg V.int (Int.zero_add _)
theorem ew_range2 {a b : Int} (h1 : Ev ta σ H (dV (.int a))) (h2 : Ev tb σ H (dV (.int b))) (hn : 0 ≤ a ∧ a ≤ 100000 ∧ 0 ≤ b ∧ b ≤ 100000) : EvW (iRng2 (tCons ta (tCons tb tNil))) σ H (b - a).toNat (YFn fun i => .int (a + (i : Nat))) := fun H1 e R r =>
  (ea_cons h1 (ea_cons h2 ea_nil)) H1 e _ fun vs H2 e2 hv => by
    have e3 : vs = [.int a, .int b] := Iss.vals (ws := [.int a, .int b]) hv
    exact ⟨a, b, e3, ⟨by omega, by omega, by omega, by omega⟩, r (Itr a (b - a).toNat) H2 (fun _ => True) e2 walk_range fun _ _ => trivial⟩
theorem ew_enum {xs : List V} (h : Ev ta σ H (dL xs)) : EvW (iEnum K (tCons ta tNil)) σ H xs.length (YPair (fun i => some (.int (i : Nat))) (fun i => xs[i]?)) := fun H1 e R r =>
  h H1 e _ fun w H2 e2 ⟨a, h1, h2⟩ => by
    subst h1
    have q : SqL K H2 a xs := SqL.of h2
    exact ⟨a, xs, rfl, q, r (Ite K a) H2 _ e2 walk_enum fun H3 e3 => sqL_up e3 q⟩
theorem EvW.mono {wi : TI} {n : Nat} {Y : Nat → Hp → V → Hp → Prop} (e : Ex H H') (h : EvW wi σ H n Y) : EvW wi σ H' n Y := fun H1 a R r => h H1 (e.trans a) R r
/-! targets -/
theorem tg_at {xs : List V} {k m : Nat} {σ' : L2.St} {H1 H2 : Hp} {Qk : L2.St → Hp → Prop} (hy : YAt xs k H1 x H2) (hx : xs[k]? = some v) (q : ∀ H3, Ex H1 H3 → Qk (σ'.set m (some v)) H3) : gName m x σ' H2 Qk := by
  obtain ⟨h1, h2⟩ := hy
  rw [hx] at h2
  have e := Option.some.inj h2
  subst e h1
  exact q _ (Ex.refl _)
theorem tg_fn {f : Nat → V} {k m : Nat} {σ' : L2.St} {H1 H2 : Hp} {Qk : L2.St → Hp → Prop} (hy : YFn f k H1 x H2) (q : ∀ H3, Ex H1 H3 → Qk (σ'.set m (some (f k))) H3) : gName m x σ' H2 Qk := by
  obtain ⟨h1, h2⟩ := hy
  subst h1 h2
  exact q _ (Ex.refl _)
theorem tg_pair {xs ys : Nat → Option V} {k m m' : Nat} {σ' : L2.St} {H1 H2 : Hp} {a b : V} {Qk : L2.St → Hp → Prop} (hy : YPair xs ys k H1 x H2) (ha : xs k = some a) (hb : ys k = some b)
    (q : ∀ H3, Ex H1 H3 → Qk ((σ'.set m (some a)).set m' (some b)) H3) : gTup K 2 (gCons (gName m) (gCons (gName m') gNil)) x σ' H2 Qk := by
  obtain ⟨T, p, r, h1, h2, h3, h4, h5⟩ := hy
  rw [ha] at h4
  rw [hb] at h5
  have e4 := Option.some.inj h4
  have e5 := Option.some.inj h5
  subst e4 e5 h1 h3
  exact ⟨T, [a, b], rfl, SqT.of upd_same, rfl, a, [b], rfl, b, [], rfl, rfl, q _ (Ex.new h2)⟩
/-- the walked list's items are themselves tuples -/
theorem tg_tup {xs : List V} {k m m' : Nat} {σ' : L2.St} {H1 H2 : Hp} {a b : V} {T : Addr} {Qk : L2.St → Hp → Prop} (hy : YAt xs k H1 x H2) (hx : xs[k]? = some (.ref T)) (hT : H1 T = some (.tup [a, b]))
    (q : ∀ H3, Ex H1 H3 → Qk ((σ'.set m (some a)).set m' (some b)) H3) : gTup K 2 (gCons (gName m) (gCons (gName m') gNil)) x σ' H2 Qk := by
  obtain ⟨h1, h2⟩ := hy
  rw [hx] at h2
  have e := Option.some.inj h2
  subst e h1
  exact ⟨T, [a, b], rfl, SqT.of hT, rfl, a, [b], rfl, b, [], rfl, rfl, q _ (Ex.refl _)⟩
/-! comprehensions -/
/-- a description that no store into a list takes away -/
def Stable (d : Dsc) : Prop := ∀ (G : Hp) (v : V) (H : Hp) (D : Addr) (xs ys : List V), H D = some (.lst xs) → d.is G v H → d.is G v (upd H D (.lst ys))
theorem stable_V {v : V} : Stable (dV v) := fun _ _ _ _ _ _ _ h => h
theorem stable_T {xs : List V} : Stable (dT xs) := fun G v H D ys zs hD ⟨p, h1, h2⟩ => ⟨p, h1, by rw [upd_ne (ne_of h2 hD (by intro z; cases z))]; exact h2⟩
theorem Iss.upd : ∀ {ds : List Dsc} {G H : Hp} {vs : List V} {D : Addr} {xs ys : List V}, (∀ d ∈ ds, Stable d) → H D = some (.lst xs) → Iss ds G vs H → Iss ds G vs (upd H D (.lst ys))
  | [], _, _, [], _, _, _, _, _, _ => trivial
  | [], _, _, _ :: _, _, _, _, _, _, h => h.elim
  | _ :: _, _, _, [], _, _, _, _, _, h => h.elim
  | d :: ds, G, H, v :: vs, D, xs, ys, hs, hD, h => ⟨hs d List.mem_cons_self G v H D xs ys hD h.1, Iss.upd (fun d' hd => hs d' (List.mem_cons_of_mem _ hd)) hD h.2⟩
def givD (n : Nat) (f : Nat → Bool) (d : Nat → Dsc) : List Dsc := ((List.range n).filter f).map d
theorem givD_yes {n : Nat} {f : Nat → Bool} {d : Nat → Dsc} (h : f n = true) : givD (n + 1) f d = givD n f d ++ [d n] := by
  unfold givD
  simp [List.range_succ, List.filter_append, h]
theorem givD_no {n : Nat} {f : Nat → Bool} {d : Nat → Dsc} (h : f n = false) : givD (n + 1) f d = givD n f d := by
  unfold givD
  simp [List.range_succ, List.filter_append, h]
theorem givD_len (n : Nat) (f : Nat → Bool) (d : Nat → Dsc) : (givD n f d).length ≤ n := by
  unfold givD
  rw [List.length_map]
  have h := List.length_filter_le f (List.range n)
  rw [List.length_range] at h
  exact h
theorem ev_lc {wi : TI} {g : TG} {tt : TT} {vs : List Nat} {n : Nat} {Y : Nat → Hp → V → Hp → Prop} (σi : Nat → L2.St) (f : Nat → Bool) (dd : Nat → Dsc) (hw : EvW wi σ H n Y) (hn : n ≤ 40000)
    (hg : ∀ (k : Nat) (H1 : Hp) (x : V) (H2 : Hp) (Qk : L2.St → Hp → Prop), Ex H H1 → k < n → Y k H1 x H2 → (∀ H3, Ex H1 H3 → Qk (σi k) H3) → g x (wipe σ vs) H2 Qk)
    (hwp : ∀ k, k < n → wipe (σi k) vs = wipe σ vs) (ht : ∀ k, k < n → EvT tt (σi k) H (f k)) (he : ∀ k, k < n → f k = true → Ev te (σi k) H (dd k)) (hd : ∀ k, Stable (dd k)) :
    Ev (tLc wi g tt te vs) σ H (dNs (givD n f dd)) := fun H1 e Q q => hw H1 e _ fun J H2 G e2 W hG D hD =>
  lc_it W (fun k H' => Ex H2 H' ∧ ∃ xs, H' D = some (.lst xs) ∧ Iss (givD k f dd) H2 xs H') ⟨Ex.new hD, [], upd_same, trivial⟩ (fun k H' _ p => hG H' p.1)
    (fun k x Hc H' hk ⟨p1, xs, p2, p3⟩ hY => hg k Hc x H' _ ((e.trans e2).trans p1) hk hY fun H3 e3 => ⟨hwp k hk, ht k hk H3 (((e.trans e2).trans p1).trans e3) _ fun H4 e4 => by
      have e34 : Ex Hc H4 := e3.trans e4
      cases hf : f k with
      | true =>
        show te (σi k) H4 _
        refine he k hk hf H4 (((e.trans e2).trans p1).trans e34) _ fun v H5 e5 hv => ?_
        have hl := p3.len
        have hl2 := givD_len k f dd
        refine ⟨xs, e5 _ _ (e34 _ _ p2), Evl.sz_lt (by omega), Ex.mut ((p1.trans e34).trans e5) hD, xs ++ [v], upd_same, ?_⟩
        rw [givD_yes hf]
        have e6 : Ex H2 H4 := p1.trans e34
        refine Iss.upd (fun d' hd' => ?_) (e5 _ _ (e34 _ _ p2)) (Iss.snoc (p3.up (e34.trans e5)) ((dd k).dn e6 hv))
        rcases List.mem_append.mp hd' with z | z
        · obtain ⟨m, _, rfl⟩ := List.mem_map.mp z
          exact hd m
        · rw [List.mem_singleton.mp z]
          exact hd k
      | false =>
        show Ex H2 H4 ∧ _
        refine ⟨p1.trans e34, xs, e34 _ _ p2, ?_⟩
        rw [givD_no hf]
        exact p3.up e34⟩)
    fun H' ⟨p1, xs, p2, p3⟩ => q _ H' (e2.trans p1) ⟨D, xs, rfl, fresh_back e2 hD, p2, p3.dn e2⟩
theorem filter_all {α : Type} (l : List α) : l.filter (fun _ => true) = l := List.filter_eq_self.mpr fun _ _ => rfl
theorem wipe1 {m : Nat} {a : Option V} : wipe ((wipe σ [m]).set m a) [m] = wipe σ [m] := by
  show ((σ.set m none).set m a).set m none = σ.set m none
  rw [List.set_set, List.set_set]
/-- [e for i in range(5)] -/
theorem ev_lc5 {m : Nat} {tn : TE} (vv : Nat → V) (hn : Ev tn σ H (dV (.int 5))) (he : ∀ k, k < 5 → Ev te ((wipe σ [m]).set m (some (.int (k : Nat)))) H (dV (vv k))) :
    Ev (tLc (iRng1 (tCons tn tNil)) (gName m) tYes te [m]) σ H (dN ((List.range 5).map vv)) := by
  have h := ev_lc (te := te) (σ := σ) (vs := [m]) (fun k => (wipe σ [m]).set m (some (.int (k : Nat)))) (fun _ => true) (fun k => dV (vv k)) (ew_range1 hn (by decide)) (by decide)
    (fun k H1 x H2 Qk e hk hy q => tg_fn hy q) (fun k _ => wipe1) (fun k _ => et_yes) (fun k hk _ => he k hk) (fun _ => stable_V)
  refine Ev.N (h.to fun G v H2 _ _ hv => ?_)
  have e : givD (5 : Int).toNat (fun _ => true) (fun k => dV (vv k)) = ((List.range 5).map vv).map dV := by
    unfold givD
    rw [filter_all, List.map_map]
    rfl
  rw [← e]
  exact hv
/-- [e for i in range(n) if t] -/
theorem ev_lcR {m : Nat} {tn : TE} {tt : TT} {n : Int} (f : Nat → Bool) (vv : Nat → V) (hn : Ev tn σ H (dV (.int n))) (hb : 0 ≤ n ∧ n ≤ 40000) (ht : ∀ k : Nat, (k : Int) < n → EvT tt ((wipe σ [m]).set m (some (.int (k : Nat)))) H (f k))
    (he : ∀ k : Nat, (k : Int) < n → f k = true → Ev te ((wipe σ [m]).set m (some (.int (k : Nat)))) H (dV (vv k))) :
    Ev (tLc (iRng1 (tCons tn tNil)) (gName m) tt te [m]) σ H (dN (((List.range n.toNat).filter f).map vv)) := by
  have h := ev_lc (te := te) (σ := σ) (vs := [m]) (fun k => (wipe σ [m]).set m (some (.int (k : Nat)))) f (fun k => dV (vv k)) (ew_range1 hn (by omega)) (by omega)
    (fun k H1 x H2 Qk e hk hy q => tg_fn hy q) (fun k _ => wipe1) (fun k hk => ht k (by omega)) (fun k hk => he k (by omega)) (fun _ => stable_V)
  refine Ev.N (h.to fun G v H2 _ _ hv => ?_)
  have e : givD n.toNat f (fun k => dV (vv k)) = (((List.range n.toNat).filter f).map vv).map dV := by
    unfold givD
    rw [List.map_map]
    rfl
  rw [← e]
  exact hv
/-- [e for i in range(a, b)] -/
theorem ev_lcR2 {m : Nat} {tn tn' : TE} {a b : Int} (vv : Nat → V) (h1 : Ev tn σ H (dV (.int a))) (h2 : Ev tn' σ H (dV (.int b))) (hn : 0 ≤ a ∧ a ≤ 100000 ∧ 0 ≤ b ∧ b ≤ 100000) (hb : b - a ≤ 40000) (he : ∀ k : Nat, (k : Int) < b - a → Ev te ((wipe σ [m]).set m (some (.int (a + (k : Nat))))) H (dV (vv k))) :
    Ev (tLc (iRng2 (tCons tn (tCons tn' tNil))) (gName m) tYes te [m]) σ H (dN ((List.range (b - a).toNat).map vv)) := by
  have h := ev_lc (te := te) (σ := σ) (vs := [m]) (fun k => (wipe σ [m]).set m (some (.int (a + (k : Nat))))) (fun _ => true) (fun k => dV (vv k)) (ew_range2 h1 h2 hn) (by omega)
    (fun k H1 x H2 Qk e hk hy q => tg_fn hy q) (fun k _ => wipe1) (fun k _ => et_yes) (fun k hk _ => he k (by omega)) (fun _ => stable_V)
  refine Ev.N (h.to fun G v H2 _ _ hv => ?_)
  have e : givD (b - a).toNat (fun _ => true) (fun k => dV (vv k)) = ((List.range (b - a).toNat).map vv).map dV := by
    unfold givD
    rw [filter_all, List.map_map]
    rfl
  rw [← e]
  exact hv
/-- [e for x in xs if t], the list's items by their places -/
theorem ev_lcL {m n : Nat} {tt : TT} (it : Nat → V) (f : Nat → Bool) (vv : Nat → V) (hl : Ev tl σ H (dL ((List.range n).map it))) (hn : n ≤ 40000) (ht : ∀ k, k < n → EvT tt ((wipe σ [m]).set m (some (it k))) H (f k))
    (he : ∀ k, k < n → f k = true → Ev te ((wipe σ [m]).set m (some (it k))) H (dV (vv k))) :
    Ev (tLc (iList K tl) (gName m) tt te [m]) σ H (dN (((List.range n).filter f).map vv)) := by
  have hlen : ((List.range n).map it).length = n := by rw [List.length_map, List.length_range]
  have hW := ew_listD (K := K) hl
  rw [hlen] at hW
  have h := ev_lc (te := te) (tt := tt) (σ := σ) (vs := [m]) (fun k => (wipe σ [m]).set m (some (it k))) f (fun k => dV (vv k)) hW hn
    (fun k H1 x H2 Qk e hk hy q => tg_at hy (by rw [List.getElem?_map, List.getElem?_range hk]; rfl) q) (fun k _ => wipe1) ht he (fun _ => stable_V)
  refine Ev.N (h.to fun G v H2 _ _ hv => ?_)
  have e : givD n f (fun k => dV (vv k)) = (((List.range n).filter f).map vv).map dV := by
    unfold givD
    rw [List.map_map]
    rfl
  rw [← e]
  exact hv
theorem wipe2 {m m' : Nat} {a b : Option V} (h : m ≠ m') : wipe (((wipe σ [m, m']).set m a).set m' b) [m, m'] = wipe σ [m, m'] := by
  show (((((σ.set m' none).set m none).set m a).set m' b).set m' none).set m none = (σ.set m' none).set m none
  rw [List.set_set, List.set_set, List.set_comm _ _ h, List.set_set]
  rw [List.set_set]
/-- [e for k, x in enumerate(xs) if t] -/
theorem ev_lcE {m m' n : Nat} {tt : TT} (hm : m ≠ m') (it : Nat → V) (f : Nat → Bool) (dd : Nat → Dsc) (hl : Ev tl σ H (dL ((List.range n).map it))) (hn : n ≤ 40000)
    (ht : ∀ k, k < n → EvT tt (((wipe σ [m, m']).set m (some (.int (k : Nat)))).set m' (some (it k))) H (f k))
    (he : ∀ k, k < n → f k = true → Ev te (((wipe σ [m, m']).set m (some (.int (k : Nat)))).set m' (some (it k))) H (dd k)) (hd : ∀ k, Stable (dd k)) :
    Ev (tLc (iEnum K (tCons tl tNil)) (gTup K 2 (gCons (gName m) (gCons (gName m') gNil))) tt te [m, m']) σ H (dNs (givD n f dd)) := by
  have hlen : ((List.range n).map it).length = n := by rw [List.length_map, List.length_range]
  have hW := ew_enum (K := K) hl
  rw [hlen] at hW
  exact ev_lc (te := te) (tt := tt) (σ := σ) (vs := [m, m']) (fun k => ((wipe σ [m, m']).set m (some (.int (k : Nat)))).set m' (some (it k))) f dd hW hn
    (fun k H1 x H2 Qk e hk hy q => tg_pair hy rfl (by rw [List.getElem?_map, List.getElem?_range hk]; rfl) q) (fun k _ => wipe2 hm) ht he hd
theorem ev_lcEV {m m' n : Nat} {tt : TT} (hm : m ≠ m') (it : Nat → V) (f : Nat → Bool) (vv : Nat → V) (hl : Ev tl σ H (dL ((List.range n).map it))) (hn : n ≤ 40000)
    (ht : ∀ k, k < n → EvT tt (((wipe σ [m, m']).set m (some (.int (k : Nat)))).set m' (some (it k))) H (f k))
    (he : ∀ k, k < n → f k = true → Ev te (((wipe σ [m, m']).set m (some (.int (k : Nat)))).set m' (some (it k))) H (dV (vv k))) :
    Ev (tLc (iEnum K (tCons tl tNil)) (gTup K 2 (gCons (gName m) (gCons (gName m') gNil))) tt te [m, m']) σ H (dN (((List.range n).filter f).map vv)) := by
  refine Ev.N ((ev_lcE hm it f (fun k => dV (vv k)) hl hn ht he fun _ => stable_V).to fun G v H2 _ _ hv => ?_)
  have e : givD n f (fun k => dV (vv k)) = (((List.range n).filter f).map vv).map dV := by
    unfold givD
    rw [List.map_map]
    rfl
  rw [← e]
  exact hv
/-! loops whose turns either return or go on, storing slots alone -/
def GoN (t : TS) (σ : L2.St) (H : Hp) (P : Post) (N : L2.St → Prop) : Prop := ∀ H1, Ex H H1 → ∀ D : Ends, (∀ v H2, P.is H1 v H2 → D.rt v H2) → (∀ σ' H2, Ex H1 H2 → N σ' → D.nx σ' H2) → t D σ H1
variable {P : Post} {ts tr tw : TS} {N : L2.St → Prop}
theorem Go.n (h : Go ts σ H P) : GoN ts σ H P N := fun H1 e D q _ => h H1 e D q
theorem gn_next (h : N σ) : GoN tNext σ H P N := fun H1 e D _ k => k σ H1 (Ex.refl H1) h
theorem gn_if {b : Bool} (h : EvT t σ H b) (h1 : b = true → GoN ts σ H P N) (h2 : b = false → GoN tw σ H P N) : GoN (tIfS t ts tw) σ H P N := fun H1 e D q k =>
  h H1 e _ fun H2 e2 => by
    cases b with
    | true =>
      show ts D σ H2
      exact h1 rfl H2 (e.trans e2) D (fun v H3 h3 => q v H3 (P.dn e2 h3)) fun σ' H3 e3 hn => k σ' H3 (e2.trans e3) hn
    | false =>
      show tw D σ H2
      exact h2 rfl H2 (e.trans e2) D (fun v H3 h3 => q v H3 (P.dn e2 h3)) fun σ' H3 e3 hn => k σ' H3 (e2.trans e3) hn
theorem gn_asg {n : Nat} (h : Ev te σ H (dV v)) (k : GoN tr (σ.set n (some v)) H P N) : GoN (tSeq (tAsg te (gName n)) tr) σ H P N := fun H1 e D q kn =>
  h H1 e _ fun w H2 e2 hw => by
    subst hw
    exact k H2 (e.trans e2) D (fun v H3 h3 => q v H3 (P.dn e2 h3)) fun σ' H3 e3 hn => kn σ' H3 (e2.trans e3) hn
theorem gn_par {m m' : Nat} {a b : V} (ha : Ev ta σ H (dV a)) (hb : Ev tb σ H (dV b)) (k : N ((σ.set m (some a)).set m' (some b))) : GoN (tPar m m' (tCons ta (tCons tb tNil))) σ H P N := fun H1 e D q kn =>
  (ea_cons ha (ea_cons hb ea_nil)) H1 e _ fun vs H2 e2 hv => by
    have e3 : vs = [a, b] := Iss.vals (ws := [a, b]) hv
    exact ⟨a, b, e3, kn _ H2 e2 k⟩
theorem go_for {wi : TI} {g : TG} {tb : TS} {n : Nat} {Y : Nat → Hp → V → Hp → Prop} (hw : EvW wi σ H n Y) (S : Nat → L2.St → Prop) (σb : Nat → L2.St → L2.St) (h0 : S 0 σ)
    (hg : ∀ (k : Nat) (σ' : L2.St) (H1 : Hp) (x : V) (H2 : Hp) (Qk : L2.St → Hp → Prop), Ex H H1 → k < n → S k σ' → Y k H1 x H2 → (∀ H3, Ex H1 H3 → Qk (σb k σ') H3) → g x σ' H2 Qk)
    (hb : ∀ (k : Nat) (σ' : L2.St), k < n → S k σ' → GoN tb (σb k σ') H P (S (k + 1))) (hd : ∀ σ', S n σ' → Go tr σ' H P) : Go (tSeq (tFor wi g tb) tr) σ H P := fun H1 e D q =>
  hw H1 e _ fun J H2 G e2 W hG =>
    for_it W (D := { D with nx := tr D }) (fun k σ' H' => S k σ' ∧ Ex H2 H') ⟨h0, Ex.refl H2⟩ (fun k σ' H' _ p => hG H' p.2)
      (fun k x σ' Hc H' hk ⟨p1, p2⟩ hY => hg k σ' Hc x H' _ ((e.trans e2).trans p2) hk p1 hY fun H3 e3 =>
        hb k σ' hk p1 H3 (((e.trans e2).trans p2).trans e3) _ (fun v H4 h4 => q v H4 (P.dn ((e2.trans p2).trans e3) h4)) fun σ2 H4 e4 hn => ⟨hn, (p2.trans e3).trans e4⟩)
      fun σ' H' ⟨p1, p2⟩ => hd σ' p1 H' ((e.trans e2).trans p2) D fun v H3 h3 => q v H3 (P.dn (e2.trans p2) h3)
end
end Pl

/-! ### how the state lies in the heap -/
namespace Pl
open PySem PySem.Spec PyProof.Rows L2
open Kv321 (Abs Hire Set_ at5 map5 five)
def vns (l : List Nat) : List V := (l.map fun (n : Nat) => (n : Int)).map V.int
def lF5 (f : Nat → Int) : List V := (List.range 5).map fun i => V.int (f i)
def mkI : Option Nat → Int
  | none => 0
  | some h => (h : Int) + 1
def clI (b : Bool) : Int := if b then 1 else 0
theorem lk_here {k : Str} {v : V} {r : List (Str × V)} : List.lookup k ((k, v) :: r) = some v := by
  have e : (k == k) = true := beq_self_eq_true k
  simp only [List.lookup, e]
theorem lk_past {k g : Str} {v : V} {r : List (Str × V)} {o : Option V} (h : (k == g) = false) (q : List.lookup k r = o) : List.lookup k ((g, v) :: r) = o := by
  simp only [List.lookup, h]
  exact q
theorem put_here {f : Str} {v x : V} {r : List (Str × V)} : putF f v ((f, x) :: r) = (f, v) :: r := if_pos rfl
theorem put_past {f g : Str} {v x : V} {r r' : List (Str × V)} (h : ¬ g = f) (q : putF f v r = r') : putF f v ((g, x) :: r) = (g, x) :: r' := by
  rw [← q]
  exact if_neg h
def wF (v : Kv321.Work) (l : Addr) : List (Str × V) := [("winds", .int (v.winds : Nat)), ("fee", .int (v.fee : Nat)), ("more", .int (v.more : Nat)), ("price", .int (v.price : Nat)), ("loose", .ref l)]
theorem wF_winds (v : Kv321.Work) (l : Addr) : (wF v l).lookup ("winds" : Str) = some (.int (v.winds : Nat)) := lk_here
theorem wF_fee (v : Kv321.Work) (l : Addr) : (wF v l).lookup ("fee" : Str) = some (.int (v.fee : Nat)) := (lk_past (by decide +kernel) lk_here)
theorem wF_more (v : Kv321.Work) (l : Addr) : (wF v l).lookup ("more" : Str) = some (.int (v.more : Nat)) := (lk_past (by decide +kernel) (lk_past (by decide +kernel) lk_here))
theorem wF_price (v : Kv321.Work) (l : Addr) : (wF v l).lookup ("price" : Str) = some (.int (v.price : Nat)) := (lk_past (by decide +kernel) (lk_past (by decide +kernel) (lk_past (by decide +kernel) lk_here)))
theorem wF_loose (v : Kv321.Work) (l : Addr) : (wF v l).lookup ("loose" : Str) = some (.ref l) := (lk_past (by decide +kernel) (lk_past (by decide +kernel) (lk_past (by decide +kernel) (lk_past (by decide +kernel) lk_here))))
theorem pt_Work_winds (y : V) (x0 : V) (x1 : V) (x2 : V) (x3 : V) (x4 : V) : putF "winds" y ([("winds", x0), ("fee", x1), ("more", x2), ("price", x3), ("loose", x4)] : List (Str × V)) = ([("winds", y), ("fee", x1), ("more", x2), ("price", x3), ("loose", x4)] : List (Str × V)) := put_here
theorem nw_Work_winds (y : V)  : putF "winds" y ([] : List (Str × V)) = ([("winds", y)] : List (Str × V)) := rfl
theorem pt_Work_fee (y : V) (x0 : V) (x1 : V) (x2 : V) (x3 : V) (x4 : V) : putF "fee" y ([("winds", x0), ("fee", x1), ("more", x2), ("price", x3), ("loose", x4)] : List (Str × V)) = ([("winds", x0), ("fee", y), ("more", x2), ("price", x3), ("loose", x4)] : List (Str × V)) := (put_past (by decide +kernel) put_here)
theorem nw_Work_fee (y : V) (x0 : V) : putF "fee" y ([("winds", x0)] : List (Str × V)) = ([("winds", x0), ("fee", y)] : List (Str × V)) := (put_past (by decide +kernel) rfl)
theorem pt_Work_more (y : V) (x0 : V) (x1 : V) (x2 : V) (x3 : V) (x4 : V) : putF "more" y ([("winds", x0), ("fee", x1), ("more", x2), ("price", x3), ("loose", x4)] : List (Str × V)) = ([("winds", x0), ("fee", x1), ("more", y), ("price", x3), ("loose", x4)] : List (Str × V)) := (put_past (by decide +kernel) (put_past (by decide +kernel) put_here))
theorem nw_Work_more (y : V) (x0 : V) (x1 : V) : putF "more" y ([("winds", x0), ("fee", x1)] : List (Str × V)) = ([("winds", x0), ("fee", x1), ("more", y)] : List (Str × V)) := (put_past (by decide +kernel) (put_past (by decide +kernel) rfl))
theorem pt_Work_price (y : V) (x0 : V) (x1 : V) (x2 : V) (x3 : V) (x4 : V) : putF "price" y ([("winds", x0), ("fee", x1), ("more", x2), ("price", x3), ("loose", x4)] : List (Str × V)) = ([("winds", x0), ("fee", x1), ("more", x2), ("price", y), ("loose", x4)] : List (Str × V)) := (put_past (by decide +kernel) (put_past (by decide +kernel) (put_past (by decide +kernel) put_here)))
theorem nw_Work_price (y : V) (x0 : V) (x1 : V) (x2 : V) : putF "price" y ([("winds", x0), ("fee", x1), ("more", x2)] : List (Str × V)) = ([("winds", x0), ("fee", x1), ("more", x2), ("price", y)] : List (Str × V)) := (put_past (by decide +kernel) (put_past (by decide +kernel) (put_past (by decide +kernel) rfl)))
theorem pt_Work_loose (y : V) (x0 : V) (x1 : V) (x2 : V) (x3 : V) (x4 : V) : putF "loose" y ([("winds", x0), ("fee", x1), ("more", x2), ("price", x3), ("loose", x4)] : List (Str × V)) = ([("winds", x0), ("fee", x1), ("more", x2), ("price", x3), ("loose", y)] : List (Str × V)) := (put_past (by decide +kernel) (put_past (by decide +kernel) (put_past (by decide +kernel) (put_past (by decide +kernel) put_here))))
theorem nw_Work_loose (y : V) (x0 : V) (x1 : V) (x2 : V) (x3 : V) : putF "loose" y ([("winds", x0), ("fee", x1), ("more", x2), ("price", x3)] : List (Str × V)) = ([("winds", x0), ("fee", x1), ("more", x2), ("price", x3), ("loose", y)] : List (Str × V)) := (put_past (by decide +kernel) (put_past (by decide +kernel) (put_past (by decide +kernel) (put_past (by decide +kernel) rfl))))
def kF (k : Kv321.Set_) (s m g : Addr) : List (Str × V) := [("work", .int (k.work : Nat)), ("strings", .ref s), ("missing", .ref m), ("gone", .ref g), ("marked", .int (mkI k.marked))]
theorem kF_work (k : Kv321.Set_) (s m g : Addr) : (kF k s m g).lookup ("work" : Str) = some (.int (k.work : Nat)) := lk_here
theorem kF_strings (k : Kv321.Set_) (s m g : Addr) : (kF k s m g).lookup ("strings" : Str) = some (.ref s) := (lk_past (by decide +kernel) lk_here)
theorem kF_missing (k : Kv321.Set_) (s m g : Addr) : (kF k s m g).lookup ("missing" : Str) = some (.ref m) := (lk_past (by decide +kernel) (lk_past (by decide +kernel) lk_here))
theorem kF_gone (k : Kv321.Set_) (s m g : Addr) : (kF k s m g).lookup ("gone" : Str) = some (.ref g) := (lk_past (by decide +kernel) (lk_past (by decide +kernel) (lk_past (by decide +kernel) lk_here)))
theorem kF_marked (k : Kv321.Set_) (s m g : Addr) : (kF k s m g).lookup ("marked" : Str) = some (.int (mkI k.marked)) := (lk_past (by decide +kernel) (lk_past (by decide +kernel) (lk_past (by decide +kernel) (lk_past (by decide +kernel) lk_here))))
theorem pt_Kit_work (y : V) (x0 : V) (x1 : V) (x2 : V) (x3 : V) (x4 : V) : putF "work" y ([("work", x0), ("strings", x1), ("missing", x2), ("gone", x3), ("marked", x4)] : List (Str × V)) = ([("work", y), ("strings", x1), ("missing", x2), ("gone", x3), ("marked", x4)] : List (Str × V)) := put_here
theorem nw_Kit_work (y : V)  : putF "work" y ([] : List (Str × V)) = ([("work", y)] : List (Str × V)) := rfl
theorem pt_Kit_strings (y : V) (x0 : V) (x1 : V) (x2 : V) (x3 : V) (x4 : V) : putF "strings" y ([("work", x0), ("strings", x1), ("missing", x2), ("gone", x3), ("marked", x4)] : List (Str × V)) = ([("work", x0), ("strings", y), ("missing", x2), ("gone", x3), ("marked", x4)] : List (Str × V)) := (put_past (by decide +kernel) put_here)
theorem nw_Kit_strings (y : V) (x0 : V) : putF "strings" y ([("work", x0)] : List (Str × V)) = ([("work", x0), ("strings", y)] : List (Str × V)) := (put_past (by decide +kernel) rfl)
theorem pt_Kit_missing (y : V) (x0 : V) (x1 : V) (x2 : V) (x3 : V) (x4 : V) : putF "missing" y ([("work", x0), ("strings", x1), ("missing", x2), ("gone", x3), ("marked", x4)] : List (Str × V)) = ([("work", x0), ("strings", x1), ("missing", y), ("gone", x3), ("marked", x4)] : List (Str × V)) := (put_past (by decide +kernel) (put_past (by decide +kernel) put_here))
theorem nw_Kit_missing (y : V) (x0 : V) (x1 : V) : putF "missing" y ([("work", x0), ("strings", x1)] : List (Str × V)) = ([("work", x0), ("strings", x1), ("missing", y)] : List (Str × V)) := (put_past (by decide +kernel) (put_past (by decide +kernel) rfl))
theorem pt_Kit_gone (y : V) (x0 : V) (x1 : V) (x2 : V) (x3 : V) (x4 : V) : putF "gone" y ([("work", x0), ("strings", x1), ("missing", x2), ("gone", x3), ("marked", x4)] : List (Str × V)) = ([("work", x0), ("strings", x1), ("missing", x2), ("gone", y), ("marked", x4)] : List (Str × V)) := (put_past (by decide +kernel) (put_past (by decide +kernel) (put_past (by decide +kernel) put_here)))
theorem nw_Kit_gone (y : V) (x0 : V) (x1 : V) (x2 : V) : putF "gone" y ([("work", x0), ("strings", x1), ("missing", x2)] : List (Str × V)) = ([("work", x0), ("strings", x1), ("missing", x2), ("gone", y)] : List (Str × V)) := (put_past (by decide +kernel) (put_past (by decide +kernel) (put_past (by decide +kernel) rfl)))
theorem pt_Kit_marked (y : V) (x0 : V) (x1 : V) (x2 : V) (x3 : V) (x4 : V) : putF "marked" y ([("work", x0), ("strings", x1), ("missing", x2), ("gone", x3), ("marked", x4)] : List (Str × V)) = ([("work", x0), ("strings", x1), ("missing", x2), ("gone", x3), ("marked", y)] : List (Str × V)) := (put_past (by decide +kernel) (put_past (by decide +kernel) (put_past (by decide +kernel) (put_past (by decide +kernel) put_here))))
theorem nw_Kit_marked (y : V) (x0 : V) (x1 : V) (x2 : V) (x3 : V) : putF "marked" y ([("work", x0), ("strings", x1), ("missing", x2), ("gone", x3)] : List (Str × V)) = ([("work", x0), ("strings", x1), ("missing", x2), ("gone", x3), ("marked", y)] : List (Str × V)) := (put_past (by decide +kernel) (put_past (by decide +kernel) (put_past (by decide +kernel) (put_past (by decide +kernel) rfl))))
def hF (z : Kv321.Hire) (d p : Addr) : List (Str × V) := [("work", .int (z.work : Nat)), ("first", .int (z.from_ : Nat)), ("spell", .int (z.days : Nat)), ("concerts", .int (z.concerts : Nat)), ("clean", .int (clI z.clean)), ("desks", .ref d), ("kit", .int (z.set : Nat)), ("put", .ref p), ("how", .int (z.how : Nat))]
theorem hF_work (z : Kv321.Hire) (d p : Addr) : (hF z d p).lookup ("work" : Str) = some (.int (z.work : Nat)) := lk_here
theorem hF_first (z : Kv321.Hire) (d p : Addr) : (hF z d p).lookup ("first" : Str) = some (.int (z.from_ : Nat)) := (lk_past (by decide +kernel) lk_here)
theorem hF_spell (z : Kv321.Hire) (d p : Addr) : (hF z d p).lookup ("spell" : Str) = some (.int (z.days : Nat)) := (lk_past (by decide +kernel) (lk_past (by decide +kernel) lk_here))
theorem hF_concerts (z : Kv321.Hire) (d p : Addr) : (hF z d p).lookup ("concerts" : Str) = some (.int (z.concerts : Nat)) := (lk_past (by decide +kernel) (lk_past (by decide +kernel) (lk_past (by decide +kernel) lk_here)))
theorem hF_clean (z : Kv321.Hire) (d p : Addr) : (hF z d p).lookup ("clean" : Str) = some (.int (clI z.clean)) := (lk_past (by decide +kernel) (lk_past (by decide +kernel) (lk_past (by decide +kernel) (lk_past (by decide +kernel) lk_here))))
theorem hF_desks (z : Kv321.Hire) (d p : Addr) : (hF z d p).lookup ("desks" : Str) = some (.ref d) := (lk_past (by decide +kernel) (lk_past (by decide +kernel) (lk_past (by decide +kernel) (lk_past (by decide +kernel) (lk_past (by decide +kernel) lk_here)))))
theorem hF_kit (z : Kv321.Hire) (d p : Addr) : (hF z d p).lookup ("kit" : Str) = some (.int (z.set : Nat)) := (lk_past (by decide +kernel) (lk_past (by decide +kernel) (lk_past (by decide +kernel) (lk_past (by decide +kernel) (lk_past (by decide +kernel) (lk_past (by decide +kernel) lk_here))))))
theorem hF_put (z : Kv321.Hire) (d p : Addr) : (hF z d p).lookup ("put" : Str) = some (.ref p) := (lk_past (by decide +kernel) (lk_past (by decide +kernel) (lk_past (by decide +kernel) (lk_past (by decide +kernel) (lk_past (by decide +kernel) (lk_past (by decide +kernel) (lk_past (by decide +kernel) lk_here)))))))
theorem hF_how (z : Kv321.Hire) (d p : Addr) : (hF z d p).lookup ("how" : Str) = some (.int (z.how : Nat)) := (lk_past (by decide +kernel) (lk_past (by decide +kernel) (lk_past (by decide +kernel) (lk_past (by decide +kernel) (lk_past (by decide +kernel) (lk_past (by decide +kernel) (lk_past (by decide +kernel) (lk_past (by decide +kernel) lk_here))))))))
theorem pt_Hiring_work (y : V) (x0 : V) (x1 : V) (x2 : V) (x3 : V) (x4 : V) (x5 : V) (x6 : V) (x7 : V) (x8 : V) : putF "work" y ([("work", x0), ("first", x1), ("spell", x2), ("concerts", x3), ("clean", x4), ("desks", x5), ("kit", x6), ("put", x7), ("how", x8)] : List (Str × V)) = ([("work", y), ("first", x1), ("spell", x2), ("concerts", x3), ("clean", x4), ("desks", x5), ("kit", x6), ("put", x7), ("how", x8)] : List (Str × V)) := put_here
theorem nw_Hiring_work (y : V)  : putF "work" y ([] : List (Str × V)) = ([("work", y)] : List (Str × V)) := rfl
theorem pt_Hiring_first (y : V) (x0 : V) (x1 : V) (x2 : V) (x3 : V) (x4 : V) (x5 : V) (x6 : V) (x7 : V) (x8 : V) : putF "first" y ([("work", x0), ("first", x1), ("spell", x2), ("concerts", x3), ("clean", x4), ("desks", x5), ("kit", x6), ("put", x7), ("how", x8)] : List (Str × V)) = ([("work", x0), ("first", y), ("spell", x2), ("concerts", x3), ("clean", x4), ("desks", x5), ("kit", x6), ("put", x7), ("how", x8)] : List (Str × V)) := (put_past (by decide +kernel) put_here)
theorem nw_Hiring_first (y : V) (x0 : V) : putF "first" y ([("work", x0)] : List (Str × V)) = ([("work", x0), ("first", y)] : List (Str × V)) := (put_past (by decide +kernel) rfl)
theorem pt_Hiring_spell (y : V) (x0 : V) (x1 : V) (x2 : V) (x3 : V) (x4 : V) (x5 : V) (x6 : V) (x7 : V) (x8 : V) : putF "spell" y ([("work", x0), ("first", x1), ("spell", x2), ("concerts", x3), ("clean", x4), ("desks", x5), ("kit", x6), ("put", x7), ("how", x8)] : List (Str × V)) = ([("work", x0), ("first", x1), ("spell", y), ("concerts", x3), ("clean", x4), ("desks", x5), ("kit", x6), ("put", x7), ("how", x8)] : List (Str × V)) := (put_past (by decide +kernel) (put_past (by decide +kernel) put_here))
theorem nw_Hiring_spell (y : V) (x0 : V) (x1 : V) : putF "spell" y ([("work", x0), ("first", x1)] : List (Str × V)) = ([("work", x0), ("first", x1), ("spell", y)] : List (Str × V)) := (put_past (by decide +kernel) (put_past (by decide +kernel) rfl))
theorem pt_Hiring_concerts (y : V) (x0 : V) (x1 : V) (x2 : V) (x3 : V) (x4 : V) (x5 : V) (x6 : V) (x7 : V) (x8 : V) : putF "concerts" y ([("work", x0), ("first", x1), ("spell", x2), ("concerts", x3), ("clean", x4), ("desks", x5), ("kit", x6), ("put", x7), ("how", x8)] : List (Str × V)) = ([("work", x0), ("first", x1), ("spell", x2), ("concerts", y), ("clean", x4), ("desks", x5), ("kit", x6), ("put", x7), ("how", x8)] : List (Str × V)) := (put_past (by decide +kernel) (put_past (by decide +kernel) (put_past (by decide +kernel) put_here)))
theorem nw_Hiring_concerts (y : V) (x0 : V) (x1 : V) (x2 : V) : putF "concerts" y ([("work", x0), ("first", x1), ("spell", x2)] : List (Str × V)) = ([("work", x0), ("first", x1), ("spell", x2), ("concerts", y)] : List (Str × V)) := (put_past (by decide +kernel) (put_past (by decide +kernel) (put_past (by decide +kernel) rfl)))
theorem pt_Hiring_clean (y : V) (x0 : V) (x1 : V) (x2 : V) (x3 : V) (x4 : V) (x5 : V) (x6 : V) (x7 : V) (x8 : V) : putF "clean" y ([("work", x0), ("first", x1), ("spell", x2), ("concerts", x3), ("clean", x4), ("desks", x5), ("kit", x6), ("put", x7), ("how", x8)] : List (Str × V)) = ([("work", x0), ("first", x1), ("spell", x2), ("concerts", x3), ("clean", y), ("desks", x5), ("kit", x6), ("put", x7), ("how", x8)] : List (Str × V)) := (put_past (by decide +kernel) (put_past (by decide +kernel) (put_past (by decide +kernel) (put_past (by decide +kernel) put_here))))
theorem nw_Hiring_clean (y : V) (x0 : V) (x1 : V) (x2 : V) (x3 : V) : putF "clean" y ([("work", x0), ("first", x1), ("spell", x2), ("concerts", x3)] : List (Str × V)) = ([("work", x0), ("first", x1), ("spell", x2), ("concerts", x3), ("clean", y)] : List (Str × V)) := (put_past (by decide +kernel) (put_past (by decide +kernel) (put_past (by decide +kernel) (put_past (by decide +kernel) rfl))))
theorem pt_Hiring_desks (y : V) (x0 : V) (x1 : V) (x2 : V) (x3 : V) (x4 : V) (x5 : V) (x6 : V) (x7 : V) (x8 : V) : putF "desks" y ([("work", x0), ("first", x1), ("spell", x2), ("concerts", x3), ("clean", x4), ("desks", x5), ("kit", x6), ("put", x7), ("how", x8)] : List (Str × V)) = ([("work", x0), ("first", x1), ("spell", x2), ("concerts", x3), ("clean", x4), ("desks", y), ("kit", x6), ("put", x7), ("how", x8)] : List (Str × V)) := (put_past (by decide +kernel) (put_past (by decide +kernel) (put_past (by decide +kernel) (put_past (by decide +kernel) (put_past (by decide +kernel) put_here)))))
theorem nw_Hiring_desks (y : V) (x0 : V) (x1 : V) (x2 : V) (x3 : V) (x4 : V) : putF "desks" y ([("work", x0), ("first", x1), ("spell", x2), ("concerts", x3), ("clean", x4)] : List (Str × V)) = ([("work", x0), ("first", x1), ("spell", x2), ("concerts", x3), ("clean", x4), ("desks", y)] : List (Str × V)) := (put_past (by decide +kernel) (put_past (by decide +kernel) (put_past (by decide +kernel) (put_past (by decide +kernel) (put_past (by decide +kernel) rfl)))))
theorem pt_Hiring_kit (y : V) (x0 : V) (x1 : V) (x2 : V) (x3 : V) (x4 : V) (x5 : V) (x6 : V) (x7 : V) (x8 : V) : putF "kit" y ([("work", x0), ("first", x1), ("spell", x2), ("concerts", x3), ("clean", x4), ("desks", x5), ("kit", x6), ("put", x7), ("how", x8)] : List (Str × V)) = ([("work", x0), ("first", x1), ("spell", x2), ("concerts", x3), ("clean", x4), ("desks", x5), ("kit", y), ("put", x7), ("how", x8)] : List (Str × V)) := (put_past (by decide +kernel) (put_past (by decide +kernel) (put_past (by decide +kernel) (put_past (by decide +kernel) (put_past (by decide +kernel) (put_past (by decide +kernel) put_here))))))
theorem nw_Hiring_kit (y : V) (x0 : V) (x1 : V) (x2 : V) (x3 : V) (x4 : V) (x5 : V) : putF "kit" y ([("work", x0), ("first", x1), ("spell", x2), ("concerts", x3), ("clean", x4), ("desks", x5)] : List (Str × V)) = ([("work", x0), ("first", x1), ("spell", x2), ("concerts", x3), ("clean", x4), ("desks", x5), ("kit", y)] : List (Str × V)) := (put_past (by decide +kernel) (put_past (by decide +kernel) (put_past (by decide +kernel) (put_past (by decide +kernel) (put_past (by decide +kernel) (put_past (by decide +kernel) rfl))))))
theorem pt_Hiring_put (y : V) (x0 : V) (x1 : V) (x2 : V) (x3 : V) (x4 : V) (x5 : V) (x6 : V) (x7 : V) (x8 : V) : putF "put" y ([("work", x0), ("first", x1), ("spell", x2), ("concerts", x3), ("clean", x4), ("desks", x5), ("kit", x6), ("put", x7), ("how", x8)] : List (Str × V)) = ([("work", x0), ("first", x1), ("spell", x2), ("concerts", x3), ("clean", x4), ("desks", x5), ("kit", x6), ("put", y), ("how", x8)] : List (Str × V)) := (put_past (by decide +kernel) (put_past (by decide +kernel) (put_past (by decide +kernel) (put_past (by decide +kernel) (put_past (by decide +kernel) (put_past (by decide +kernel) (put_past (by decide +kernel) put_here)))))))
theorem nw_Hiring_put (y : V) (x0 : V) (x1 : V) (x2 : V) (x3 : V) (x4 : V) (x5 : V) (x6 : V) : putF "put" y ([("work", x0), ("first", x1), ("spell", x2), ("concerts", x3), ("clean", x4), ("desks", x5), ("kit", x6)] : List (Str × V)) = ([("work", x0), ("first", x1), ("spell", x2), ("concerts", x3), ("clean", x4), ("desks", x5), ("kit", x6), ("put", y)] : List (Str × V)) := (put_past (by decide +kernel) (put_past (by decide +kernel) (put_past (by decide +kernel) (put_past (by decide +kernel) (put_past (by decide +kernel) (put_past (by decide +kernel) (put_past (by decide +kernel) rfl)))))))
theorem pt_Hiring_how (y : V) (x0 : V) (x1 : V) (x2 : V) (x3 : V) (x4 : V) (x5 : V) (x6 : V) (x7 : V) (x8 : V) : putF "how" y ([("work", x0), ("first", x1), ("spell", x2), ("concerts", x3), ("clean", x4), ("desks", x5), ("kit", x6), ("put", x7), ("how", x8)] : List (Str × V)) = ([("work", x0), ("first", x1), ("spell", x2), ("concerts", x3), ("clean", x4), ("desks", x5), ("kit", x6), ("put", x7), ("how", y)] : List (Str × V)) := (put_past (by decide +kernel) (put_past (by decide +kernel) (put_past (by decide +kernel) (put_past (by decide +kernel) (put_past (by decide +kernel) (put_past (by decide +kernel) (put_past (by decide +kernel) (put_past (by decide +kernel) put_here))))))))
theorem nw_Hiring_how (y : V) (x0 : V) (x1 : V) (x2 : V) (x3 : V) (x4 : V) (x5 : V) (x6 : V) (x7 : V) : putF "how" y ([("work", x0), ("first", x1), ("spell", x2), ("concerts", x3), ("clean", x4), ("desks", x5), ("kit", x6), ("put", x7)] : List (Str × V)) = ([("work", x0), ("first", x1), ("spell", x2), ("concerts", x3), ("clean", x4), ("desks", x5), ("kit", x6), ("put", x7), ("how", y)] : List (Str × V)) := (put_past (by decide +kernel) (put_past (by decide +kernel) (put_past (by decide +kernel) (put_past (by decide +kernel) (put_past (by decide +kernel) (put_past (by decide +kernel) (put_past (by decide +kernel) (put_past (by decide +kernel) rfl))))))))
def lF (b : Bool) (a : Kv321.Abs) (w k h : Addr) : List (Str × V) := [("is_begun", .bl b), ("turn", .int (a.turn : Nat)), ("fine", .int (a.fine : Nat)), ("today", .int (a.today : Nat)), ("works", .ref w), ("kits", .ref k), ("hirings", .ref h), ("paid", .int (a.money : Nat)), ("replaced", .int (a.spent : Nat))]
theorem lF_is_begun (b : Bool) (a : Kv321.Abs) (w k h : Addr) : (lF b a w k h).lookup ("is_begun" : Str) = some (.bl b) := lk_here
theorem lF_turn (b : Bool) (a : Kv321.Abs) (w k h : Addr) : (lF b a w k h).lookup ("turn" : Str) = some (.int (a.turn : Nat)) := (lk_past (by decide +kernel) lk_here)
theorem lF_fine (b : Bool) (a : Kv321.Abs) (w k h : Addr) : (lF b a w k h).lookup ("fine" : Str) = some (.int (a.fine : Nat)) := (lk_past (by decide +kernel) (lk_past (by decide +kernel) lk_here))
theorem lF_today (b : Bool) (a : Kv321.Abs) (w k h : Addr) : (lF b a w k h).lookup ("today" : Str) = some (.int (a.today : Nat)) := (lk_past (by decide +kernel) (lk_past (by decide +kernel) (lk_past (by decide +kernel) lk_here)))
theorem lF_works (b : Bool) (a : Kv321.Abs) (w k h : Addr) : (lF b a w k h).lookup ("works" : Str) = some (.ref w) := (lk_past (by decide +kernel) (lk_past (by decide +kernel) (lk_past (by decide +kernel) (lk_past (by decide +kernel) lk_here))))
theorem lF_kits (b : Bool) (a : Kv321.Abs) (w k h : Addr) : (lF b a w k h).lookup ("kits" : Str) = some (.ref k) := (lk_past (by decide +kernel) (lk_past (by decide +kernel) (lk_past (by decide +kernel) (lk_past (by decide +kernel) (lk_past (by decide +kernel) lk_here)))))
theorem lF_hirings (b : Bool) (a : Kv321.Abs) (w k h : Addr) : (lF b a w k h).lookup ("hirings" : Str) = some (.ref h) := (lk_past (by decide +kernel) (lk_past (by decide +kernel) (lk_past (by decide +kernel) (lk_past (by decide +kernel) (lk_past (by decide +kernel) (lk_past (by decide +kernel) lk_here))))))
theorem lF_paid (b : Bool) (a : Kv321.Abs) (w k h : Addr) : (lF b a w k h).lookup ("paid" : Str) = some (.int (a.money : Nat)) := (lk_past (by decide +kernel) (lk_past (by decide +kernel) (lk_past (by decide +kernel) (lk_past (by decide +kernel) (lk_past (by decide +kernel) (lk_past (by decide +kernel) (lk_past (by decide +kernel) lk_here)))))))
theorem lF_replaced (b : Bool) (a : Kv321.Abs) (w k h : Addr) : (lF b a w k h).lookup ("replaced" : Str) = some (.int (a.spent : Nat)) := (lk_past (by decide +kernel) (lk_past (by decide +kernel) (lk_past (by decide +kernel) (lk_past (by decide +kernel) (lk_past (by decide +kernel) (lk_past (by decide +kernel) (lk_past (by decide +kernel) (lk_past (by decide +kernel) lk_here))))))))
theorem pt_Library_is_begun (y : V) (x0 : V) (x1 : V) (x2 : V) (x3 : V) (x4 : V) (x5 : V) (x6 : V) (x7 : V) (x8 : V) : putF "is_begun" y ([("is_begun", x0), ("turn", x1), ("fine", x2), ("today", x3), ("works", x4), ("kits", x5), ("hirings", x6), ("paid", x7), ("replaced", x8)] : List (Str × V)) = ([("is_begun", y), ("turn", x1), ("fine", x2), ("today", x3), ("works", x4), ("kits", x5), ("hirings", x6), ("paid", x7), ("replaced", x8)] : List (Str × V)) := put_here
theorem nw_Library_is_begun (y : V)  : putF "is_begun" y ([] : List (Str × V)) = ([("is_begun", y)] : List (Str × V)) := rfl
theorem pt_Library_turn (y : V) (x0 : V) (x1 : V) (x2 : V) (x3 : V) (x4 : V) (x5 : V) (x6 : V) (x7 : V) (x8 : V) : putF "turn" y ([("is_begun", x0), ("turn", x1), ("fine", x2), ("today", x3), ("works", x4), ("kits", x5), ("hirings", x6), ("paid", x7), ("replaced", x8)] : List (Str × V)) = ([("is_begun", x0), ("turn", y), ("fine", x2), ("today", x3), ("works", x4), ("kits", x5), ("hirings", x6), ("paid", x7), ("replaced", x8)] : List (Str × V)) := (put_past (by decide +kernel) put_here)
theorem nw_Library_turn (y : V) (x0 : V) : putF "turn" y ([("is_begun", x0)] : List (Str × V)) = ([("is_begun", x0), ("turn", y)] : List (Str × V)) := (put_past (by decide +kernel) rfl)
theorem pt_Library_fine (y : V) (x0 : V) (x1 : V) (x2 : V) (x3 : V) (x4 : V) (x5 : V) (x6 : V) (x7 : V) (x8 : V) : putF "fine" y ([("is_begun", x0), ("turn", x1), ("fine", x2), ("today", x3), ("works", x4), ("kits", x5), ("hirings", x6), ("paid", x7), ("replaced", x8)] : List (Str × V)) = ([("is_begun", x0), ("turn", x1), ("fine", y), ("today", x3), ("works", x4), ("kits", x5), ("hirings", x6), ("paid", x7), ("replaced", x8)] : List (Str × V)) := (put_past (by decide +kernel) (put_past (by decide +kernel) put_here))
theorem nw_Library_fine (y : V) (x0 : V) (x1 : V) : putF "fine" y ([("is_begun", x0), ("turn", x1)] : List (Str × V)) = ([("is_begun", x0), ("turn", x1), ("fine", y)] : List (Str × V)) := (put_past (by decide +kernel) (put_past (by decide +kernel) rfl))
theorem pt_Library_today (y : V) (x0 : V) (x1 : V) (x2 : V) (x3 : V) (x4 : V) (x5 : V) (x6 : V) (x7 : V) (x8 : V) : putF "today" y ([("is_begun", x0), ("turn", x1), ("fine", x2), ("today", x3), ("works", x4), ("kits", x5), ("hirings", x6), ("paid", x7), ("replaced", x8)] : List (Str × V)) = ([("is_begun", x0), ("turn", x1), ("fine", x2), ("today", y), ("works", x4), ("kits", x5), ("hirings", x6), ("paid", x7), ("replaced", x8)] : List (Str × V)) := (put_past (by decide +kernel) (put_past (by decide +kernel) (put_past (by decide +kernel) put_here)))
theorem nw_Library_today (y : V) (x0 : V) (x1 : V) (x2 : V) : putF "today" y ([("is_begun", x0), ("turn", x1), ("fine", x2)] : List (Str × V)) = ([("is_begun", x0), ("turn", x1), ("fine", x2), ("today", y)] : List (Str × V)) := (put_past (by decide +kernel) (put_past (by decide +kernel) (put_past (by decide +kernel) rfl)))
theorem pt_Library_works (y : V) (x0 : V) (x1 : V) (x2 : V) (x3 : V) (x4 : V) (x5 : V) (x6 : V) (x7 : V) (x8 : V) : putF "works" y ([("is_begun", x0), ("turn", x1), ("fine", x2), ("today", x3), ("works", x4), ("kits", x5), ("hirings", x6), ("paid", x7), ("replaced", x8)] : List (Str × V)) = ([("is_begun", x0), ("turn", x1), ("fine", x2), ("today", x3), ("works", y), ("kits", x5), ("hirings", x6), ("paid", x7), ("replaced", x8)] : List (Str × V)) := (put_past (by decide +kernel) (put_past (by decide +kernel) (put_past (by decide +kernel) (put_past (by decide +kernel) put_here))))
theorem nw_Library_works (y : V) (x0 : V) (x1 : V) (x2 : V) (x3 : V) : putF "works" y ([("is_begun", x0), ("turn", x1), ("fine", x2), ("today", x3)] : List (Str × V)) = ([("is_begun", x0), ("turn", x1), ("fine", x2), ("today", x3), ("works", y)] : List (Str × V)) := (put_past (by decide +kernel) (put_past (by decide +kernel) (put_past (by decide +kernel) (put_past (by decide +kernel) rfl))))
theorem pt_Library_kits (y : V) (x0 : V) (x1 : V) (x2 : V) (x3 : V) (x4 : V) (x5 : V) (x6 : V) (x7 : V) (x8 : V) : putF "kits" y ([("is_begun", x0), ("turn", x1), ("fine", x2), ("today", x3), ("works", x4), ("kits", x5), ("hirings", x6), ("paid", x7), ("replaced", x8)] : List (Str × V)) = ([("is_begun", x0), ("turn", x1), ("fine", x2), ("today", x3), ("works", x4), ("kits", y), ("hirings", x6), ("paid", x7), ("replaced", x8)] : List (Str × V)) := (put_past (by decide +kernel) (put_past (by decide +kernel) (put_past (by decide +kernel) (put_past (by decide +kernel) (put_past (by decide +kernel) put_here)))))
theorem nw_Library_kits (y : V) (x0 : V) (x1 : V) (x2 : V) (x3 : V) (x4 : V) : putF "kits" y ([("is_begun", x0), ("turn", x1), ("fine", x2), ("today", x3), ("works", x4)] : List (Str × V)) = ([("is_begun", x0), ("turn", x1), ("fine", x2), ("today", x3), ("works", x4), ("kits", y)] : List (Str × V)) := (put_past (by decide +kernel) (put_past (by decide +kernel) (put_past (by decide +kernel) (put_past (by decide +kernel) (put_past (by decide +kernel) rfl)))))
theorem pt_Library_hirings (y : V) (x0 : V) (x1 : V) (x2 : V) (x3 : V) (x4 : V) (x5 : V) (x6 : V) (x7 : V) (x8 : V) : putF "hirings" y ([("is_begun", x0), ("turn", x1), ("fine", x2), ("today", x3), ("works", x4), ("kits", x5), ("hirings", x6), ("paid", x7), ("replaced", x8)] : List (Str × V)) = ([("is_begun", x0), ("turn", x1), ("fine", x2), ("today", x3), ("works", x4), ("kits", x5), ("hirings", y), ("paid", x7), ("replaced", x8)] : List (Str × V)) := (put_past (by decide +kernel) (put_past (by decide +kernel) (put_past (by decide +kernel) (put_past (by decide +kernel) (put_past (by decide +kernel) (put_past (by decide +kernel) put_here))))))
theorem nw_Library_hirings (y : V) (x0 : V) (x1 : V) (x2 : V) (x3 : V) (x4 : V) (x5 : V) : putF "hirings" y ([("is_begun", x0), ("turn", x1), ("fine", x2), ("today", x3), ("works", x4), ("kits", x5)] : List (Str × V)) = ([("is_begun", x0), ("turn", x1), ("fine", x2), ("today", x3), ("works", x4), ("kits", x5), ("hirings", y)] : List (Str × V)) := (put_past (by decide +kernel) (put_past (by decide +kernel) (put_past (by decide +kernel) (put_past (by decide +kernel) (put_past (by decide +kernel) (put_past (by decide +kernel) rfl))))))
theorem pt_Library_paid (y : V) (x0 : V) (x1 : V) (x2 : V) (x3 : V) (x4 : V) (x5 : V) (x6 : V) (x7 : V) (x8 : V) : putF "paid" y ([("is_begun", x0), ("turn", x1), ("fine", x2), ("today", x3), ("works", x4), ("kits", x5), ("hirings", x6), ("paid", x7), ("replaced", x8)] : List (Str × V)) = ([("is_begun", x0), ("turn", x1), ("fine", x2), ("today", x3), ("works", x4), ("kits", x5), ("hirings", x6), ("paid", y), ("replaced", x8)] : List (Str × V)) := (put_past (by decide +kernel) (put_past (by decide +kernel) (put_past (by decide +kernel) (put_past (by decide +kernel) (put_past (by decide +kernel) (put_past (by decide +kernel) (put_past (by decide +kernel) put_here)))))))
theorem nw_Library_paid (y : V) (x0 : V) (x1 : V) (x2 : V) (x3 : V) (x4 : V) (x5 : V) (x6 : V) : putF "paid" y ([("is_begun", x0), ("turn", x1), ("fine", x2), ("today", x3), ("works", x4), ("kits", x5), ("hirings", x6)] : List (Str × V)) = ([("is_begun", x0), ("turn", x1), ("fine", x2), ("today", x3), ("works", x4), ("kits", x5), ("hirings", x6), ("paid", y)] : List (Str × V)) := (put_past (by decide +kernel) (put_past (by decide +kernel) (put_past (by decide +kernel) (put_past (by decide +kernel) (put_past (by decide +kernel) (put_past (by decide +kernel) (put_past (by decide +kernel) rfl)))))))
theorem pt_Library_replaced (y : V) (x0 : V) (x1 : V) (x2 : V) (x3 : V) (x4 : V) (x5 : V) (x6 : V) (x7 : V) (x8 : V) : putF "replaced" y ([("is_begun", x0), ("turn", x1), ("fine", x2), ("today", x3), ("works", x4), ("kits", x5), ("hirings", x6), ("paid", x7), ("replaced", x8)] : List (Str × V)) = ([("is_begun", x0), ("turn", x1), ("fine", x2), ("today", x3), ("works", x4), ("kits", x5), ("hirings", x6), ("paid", x7), ("replaced", y)] : List (Str × V)) := (put_past (by decide +kernel) (put_past (by decide +kernel) (put_past (by decide +kernel) (put_past (by decide +kernel) (put_past (by decide +kernel) (put_past (by decide +kernel) (put_past (by decide +kernel) (put_past (by decide +kernel) put_here))))))))
theorem nw_Library_replaced (y : V) (x0 : V) (x1 : V) (x2 : V) (x3 : V) (x4 : V) (x5 : V) (x6 : V) (x7 : V) : putF "replaced" y ([("is_begun", x0), ("turn", x1), ("fine", x2), ("today", x3), ("works", x4), ("kits", x5), ("hirings", x6), ("paid", x7)] : List (Str × V)) = ([("is_begun", x0), ("turn", x1), ("fine", x2), ("today", x3), ("works", x4), ("kits", x5), ("hirings", x6), ("paid", x7), ("replaced", y)] : List (Str × V)) := (put_past (by decide +kernel) (put_past (by decide +kernel) (put_past (by decide +kernel) (put_past (by decide +kernel) (put_past (by decide +kernel) (put_past (by decide +kernel) (put_past (by decide +kernel) (put_past (by decide +kernel) rfl))))))))

structure HirAt (K : PySem.W.Frag) (H : Hp) (x : Addr) (z : Hire) (dx d p : Addr) : Prop where
  ob : H x = some (.ins (He.ga K "Hiring") dx (hF z d p))
  ds : H d = some (.lst (vns z.desks))
  pt : H p = some (.lst (vns z.loose))
def Hir (K : PySem.W.Frag) (H : Hp) (x : Addr) (z : Hire) : Prop := ∃ dx d p, HirAt K H x z dx d p
def Kit (K : PySem.W.Frag) (H : Hp) (x : Addr) (k : Set_) : Prop := ∃ dx s m g, H x = some (.ins (He.ga K "Kit") dx (kF k s m g)) ∧ H s = some (.lst (vns k.strings)) ∧ H m = some (.lst (vns k.missing)) ∧ H g = some (.lst (vns k.gone))
def Wrk (K : PySem.W.Frag) (H : Hp) (x : Addr) (v : Kv321.Work) : Prop := ∃ dx l, H x = some (.ins (He.ga K "Work") dx (wF v l)) ∧ H l = some (.lst (vns v.loose))
section
variable {K : PySem.W.Frag} {mg : Str → Option Value} {H H' : Hp} {x : Addr} {z : Hire} {k : Set_} {v : Kv321.Work}
theorem Hir.up (h : Hir K H x z) (e : Ex H H') : Hir K H' x z := let ⟨dx, d, p, q⟩ := h; ⟨dx, d, p, e _ _ q.ob, e _ _ q.ds, e _ _ q.pt⟩
theorem Kit.up (h : Kit K H x k) (e : Ex H H') : Kit K H' x k := let ⟨dx, s, m, g, q1, q2, q3, q4⟩ := h; ⟨dx, s, m, g, e _ _ q1, e _ _ q2, e _ _ q3, e _ _ q4⟩
theorem Wrk.up (h : Wrk K H x v) (e : Ex H H') : Wrk K H' x v := let ⟨dx, l, q1, q2⟩ := h; ⟨dx, l, e _ _ q1, e _ _ q2⟩
theorem Hir.work (T : Txt K mg) (h : Hir K H x z) : Fld K H x "work" (.int (z.work : Nat)) := let ⟨_, _, _, q⟩ := h; ⟨_, _, _, q.ob, T.c_Hiring, T.n_Hiring_work, hF_work _ _ _⟩
theorem Hir.first (T : Txt K mg) (h : Hir K H x z) : Fld K H x "first" (.int (z.from_ : Nat)) := let ⟨_, _, _, q⟩ := h; ⟨_, _, _, q.ob, T.c_Hiring, T.n_Hiring_first, hF_first _ _ _⟩
theorem Hir.spell (T : Txt K mg) (h : Hir K H x z) : Fld K H x "spell" (.int (z.days : Nat)) := let ⟨_, _, _, q⟩ := h; ⟨_, _, _, q.ob, T.c_Hiring, T.n_Hiring_spell, hF_spell _ _ _⟩
theorem Hir.concerts (T : Txt K mg) (h : Hir K H x z) : Fld K H x "concerts" (.int (z.concerts : Nat)) := let ⟨_, _, _, q⟩ := h; ⟨_, _, _, q.ob, T.c_Hiring, T.n_Hiring_concerts, hF_concerts _ _ _⟩
theorem Hir.clean (T : Txt K mg) (h : Hir K H x z) : Fld K H x "clean" (.int (clI z.clean)) := let ⟨_, _, _, q⟩ := h; ⟨_, _, _, q.ob, T.c_Hiring, T.n_Hiring_clean, hF_clean _ _ _⟩
theorem Hir.kit (T : Txt K mg) (h : Hir K H x z) : Fld K H x "kit" (.int (z.set : Nat)) := let ⟨_, _, _, q⟩ := h; ⟨_, _, _, q.ob, T.c_Hiring, T.n_Hiring_kit, hF_kit _ _ _⟩
theorem Hir.how (T : Txt K mg) (h : Hir K H x z) : Fld K H x "how" (.int (z.how : Nat)) := let ⟨_, _, _, q⟩ := h; ⟨_, _, _, q.ob, T.c_Hiring, T.n_Hiring_how, hF_how _ _ _⟩
theorem Hir.desks (T : Txt K mg) (h : Hir K H x z) : FldL K H x "desks" (vns z.desks) := let ⟨_, d, _, q⟩ := h; ⟨d, ⟨_, _, _, q.ob, T.c_Hiring, T.n_Hiring_desks, hF_desks _ _ _⟩, q.ds⟩
theorem Hir.put (T : Txt K mg) (h : Hir K H x z) : FldL K H x "put" (vns z.loose) := let ⟨_, _, p, q⟩ := h; ⟨p, ⟨_, _, _, q.ob, T.c_Hiring, T.n_Hiring_put, hF_put _ _ _⟩, q.pt⟩
theorem Kit.work (T : Txt K mg) (h : Kit K H x k) : Fld K H x "work" (.int (k.work : Nat)) := let ⟨_, _, _, _, q, _⟩ := h; ⟨_, _, _, q, T.c_Kit, T.n_Kit_work, kF_work _ _ _ _⟩
theorem Kit.marked (T : Txt K mg) (h : Kit K H x k) : Fld K H x "marked" (.int (mkI k.marked)) := let ⟨_, _, _, _, q, _⟩ := h; ⟨_, _, _, q, T.c_Kit, T.n_Kit_marked, kF_marked _ _ _ _⟩
theorem Kit.strings (T : Txt K mg) (h : Kit K H x k) : FldL K H x "strings" (vns k.strings) := let ⟨_, s, _, _, q, q2, _⟩ := h; ⟨s, ⟨_, _, _, q, T.c_Kit, T.n_Kit_strings, kF_strings _ _ _ _⟩, q2⟩
theorem Kit.missing (T : Txt K mg) (h : Kit K H x k) : FldL K H x "missing" (vns k.missing) := let ⟨_, _, m, _, q, _, q3, _⟩ := h; ⟨m, ⟨_, _, _, q, T.c_Kit, T.n_Kit_missing, kF_missing _ _ _ _⟩, q3⟩
theorem Kit.gone (T : Txt K mg) (h : Kit K H x k) : FldL K H x "gone" (vns k.gone) := let ⟨_, _, _, g, q, _, _, q4⟩ := h; ⟨g, ⟨_, _, _, q, T.c_Kit, T.n_Kit_gone, kF_gone _ _ _ _⟩, q4⟩
theorem Wrk.winds (T : Txt K mg) (h : Wrk K H x v) : Fld K H x "winds" (.int (v.winds : Nat)) := let ⟨_, _, q, _⟩ := h; ⟨_, _, _, q, T.c_Work, T.n_Work_winds, wF_winds _ _⟩
theorem Wrk.fee (T : Txt K mg) (h : Wrk K H x v) : Fld K H x "fee" (.int (v.fee : Nat)) := let ⟨_, _, q, _⟩ := h; ⟨_, _, _, q, T.c_Work, T.n_Work_fee, wF_fee _ _⟩
theorem Wrk.more (T : Txt K mg) (h : Wrk K H x v) : Fld K H x "more" (.int (v.more : Nat)) := let ⟨_, _, q, _⟩ := h; ⟨_, _, _, q, T.c_Work, T.n_Work_more, wF_more _ _⟩
theorem Wrk.price (T : Txt K mg) (h : Wrk K H x v) : Fld K H x "price" (.int (v.price : Nat)) := let ⟨_, _, q, _⟩ := h; ⟨_, _, _, q, T.c_Work, T.n_Work_price, wF_price _ _⟩
theorem Wrk.loose (T : Txt K mg) (h : Wrk K H x v) : FldL K H x "loose" (vns v.loose) := let ⟨_, l, q, q2⟩ := h; ⟨l, ⟨_, _, _, q, T.c_Work, T.n_Work_loose, wF_loose _ _⟩, q2⟩
end
/-! ### the whole state -/
inductive Tag where
  | lib | works | kits | hirs | work (i : Nat) | loose (i : Nat) | kit (i : Nat) | strs (i : Nat) | miss (i : Nat) | gone (i : Nat) | hir (i : Nat) | desks (i : Nat) | put (i : Nat)
  deriving DecidableEq
def Tag.ok (a : Abs) : Tag → Prop
  | .lib => True
  | .works => True
  | .kits => True
  | .hirs => True
  | .work i => i < a.works.length
  | .loose i => i < a.works.length
  | .kit i => i < a.sets.length
  | .strs i => i < a.sets.length
  | .miss i => i < a.sets.length
  | .gone i => i < a.sets.length
  | .hir i => i < a.hires.length
  | .desks i => i < a.hires.length
  | .put i => i < a.hires.length
/-- the references to n things -/
def refs (A : Nat → Addr) (n : Nat) : List V := (List.range n).map fun i => .ref (A i)
def cont (K : PySem.W.Frag) (A D : Tag → Addr) (b : Bool) (a : Abs) : Tag → HO
  | .lib => .ins (He.ga K "Library") (D .lib) (lF b a (A .works) (A .kits) (A .hirs))
  | .works => .lst (refs (fun i => A (.work i)) a.works.length)
  | .kits => .lst (refs (fun i => A (.kit i)) a.sets.length)
  | .hirs => .lst (refs (fun i => A (.hir i)) a.hires.length)
  | .work i => .ins (He.ga K "Work") (D (.work i)) (wF (a.work i) (A (.loose i)))
  | .loose i => .lst (vns (a.work i).loose)
  | .kit i => .ins (He.ga K "Kit") (D (.kit i)) (kF (a.set i) (A (.strs i)) (A (.miss i)) (A (.gone i)))
  | .strs i => .lst (vns (a.set i).strings)
  | .miss i => .lst (vns (a.set i).missing)
  | .gone i => .lst (vns (a.set i).gone)
  | .hir i => .ins (He.ga K "Hiring") (D (.hir i)) (hF (a.hire i) (A (.desks i)) (A (.put i)))
  | .desks i => .lst (vns (a.hire i).desks)
  | .put i => .lst (vns (a.hire i).loose)
structure Rep (K : PySem.W.Frag) (H : Hp) (A D : Tag → Addr) (b : Bool) (a : Abs) : Prop where
  at_ : ∀ t, t.ok a → H (A t) = some (cont K A D b a t)
  inj : ∀ t u, t.ok a → u.ok a → A t = A u → t = u
/-- the addresses that the state has -/
def Own (A : Tag → Addr) (a : Abs) (p : Addr) : Prop := ∃ t : Tag, t.ok a ∧ A t = p
theorem atI_refs {A : Nat → Addr} {n i : Nat} (h : i < n) : atI (refs A n) (i : Int) = some (.ref (A i)) := atI_nat (by unfold refs; rw [List.getElem?_map, List.getElem?_range h]; rfl)
theorem refs_len {A : Nat → Addr} {n : Nat} : (refs A n).length = n := by unfold refs; rw [List.length_map, List.length_range]
theorem atI_vns {l : List Nat} {i : Nat} (h : i < l.length) : atI (vns l) (i : Int) = some (.int (at5 l i : Nat)) := by
  refine atI_nat ?_
  unfold vns at5
  rw [List.getElem?_map, List.getElem?_map, List.getD_eq_getElem?_getD, List.getElem?_eq_getElem h]
  rfl
theorem atI_lF5 {f : Nat → Int} {i : Nat} (h : i < 5) : atI (lF5 f) (i : Int) = some (.int (f i)) := atI_nat (by unfold lF5; rw [List.getElem?_map, List.getElem?_range h]; rfl)
theorem vns_len {l : List Nat} : (vns l).length = l.length := by unfold vns; rw [List.length_map, List.length_map]
theorem lF5_len {f : Nat → Int} : (lF5 f).length = 5 := by unfold lF5; rw [List.length_map, List.length_range]
theorem vns_map5 (f : Nat → Nat) : vns (map5 f) = lF5 fun i => (f i : Int) := by
  unfold vns map5 lF5
  rw [List.map_map, List.map_map]
  rfl
theorem map5_len (f : Nat → Nat) : (map5 f).length = 5 := by unfold map5; rw [List.length_map, List.length_range]
theorem at5_map5 {f : Nat → Nat} {i : Nat} (h : i < 5) : at5 (map5 f) i = f i := by
  unfold at5 map5
  rw [List.getD_eq_getElem?_getD, List.getElem?_map, List.getElem?_range h]
  rfl
theorem list5 {l : List Nat} (h : l.length = 5) : l = map5 (at5 l) := by
  match l, h with
  | [a, b, c, d, e], _ => rfl
theorem vns5 {l : List Nat} (h : l.length = 5) : vns l = lF5 fun i => (at5 l i : Int) := by
  have e := vns_map5 (at5 l)
  rw [← list5 h] at e
  exact e
theorem lF5_congr {f g : Nat → Int} (h : ∀ i, i < 5 → f i = g i) : lF5 f = lF5 g := by
  unfold lF5
  refine List.map_congr_left fun i hi => ?_
  rw [h i (List.mem_range.mp hi)]
theorem sum_cast (l : List Nat) : (l.map fun (n : Nat) => (n : Int)).sum = ((l.sum : Nat) : Int) := by
  induction l with
  | nil => rfl
  | cons n r ih =>
    rw [List.map_cons, List.sum_cons, List.sum_cons, ih]
    omega
section
variable {K : PySem.W.Frag} {mg : Str → Option Value} {H H' : Hp} {A D : Tag → Addr} {b : Bool} {a : Abs}
theorem Rep.up (R : Rep K H A D b a) (e : Ex H H') : Rep K H' A D b a := ⟨fun t h => e _ _ (R.at_ t h), R.inj⟩
theorem Rep.some (R : Rep K H A D b a) {p : Addr} (h : Own A a p) : H p ≠ none := by
  obtain ⟨t, h1, rfl⟩ := h
  rw [R.at_ t h1]
  intro z
  cases z
theorem Rep.hir (R : Rep K H A D b a) {i : Nat} (h : i < a.hires.length) : Hir K H (A (.hir i)) (a.hire i) := ⟨_, _, _, R.at_ (.hir i) h, R.at_ (.desks i) h, R.at_ (.put i) h⟩
theorem Rep.kit (R : Rep K H A D b a) {i : Nat} (h : i < a.sets.length) : Kit K H (A (.kit i)) (a.set i) := ⟨_, _, _, _, R.at_ (.kit i) h, R.at_ (.strs i) h, R.at_ (.miss i) h, R.at_ (.gone i) h⟩
theorem Rep.work (R : Rep K H A D b a) {i : Nat} (h : i < a.works.length) : Wrk K H (A (.work i)) (a.work i) := ⟨_, _, R.at_ (.work i) h, R.at_ (.loose i) h⟩
theorem Rep.is_begun (T : Txt K mg) (R : Rep K H A D b a) : Fld K H (A .lib) "is_begun" (.bl b) := ⟨_, _, _, R.at_ .lib trivial, T.c_Library, T.n_Library_is_begun, lF_is_begun _ _ _ _ _⟩
theorem Rep.turn (T : Txt K mg) (R : Rep K H A D b a) : Fld K H (A .lib) "turn" (.int (a.turn : Nat)) := ⟨_, _, _, R.at_ .lib trivial, T.c_Library, T.n_Library_turn, lF_turn _ _ _ _ _⟩
theorem Rep.fine (T : Txt K mg) (R : Rep K H A D b a) : Fld K H (A .lib) "fine" (.int (a.fine : Nat)) := ⟨_, _, _, R.at_ .lib trivial, T.c_Library, T.n_Library_fine, lF_fine _ _ _ _ _⟩
theorem Rep.today (T : Txt K mg) (R : Rep K H A D b a) : Fld K H (A .lib) "today" (.int (a.today : Nat)) := ⟨_, _, _, R.at_ .lib trivial, T.c_Library, T.n_Library_today, lF_today _ _ _ _ _⟩
theorem Rep.paid (T : Txt K mg) (R : Rep K H A D b a) : Fld K H (A .lib) "paid" (.int (a.money : Nat)) := ⟨_, _, _, R.at_ .lib trivial, T.c_Library, T.n_Library_paid, lF_paid _ _ _ _ _⟩
theorem Rep.replaced (T : Txt K mg) (R : Rep K H A D b a) : Fld K H (A .lib) "replaced" (.int (a.spent : Nat)) := ⟨_, _, _, R.at_ .lib trivial, T.c_Library, T.n_Library_replaced, lF_replaced _ _ _ _ _⟩
theorem Rep.works (T : Txt K mg) (R : Rep K H A D b a) : FldL K H (A .lib) "works" (refs (fun i => A (.work i)) a.works.length) := ⟨_, ⟨_, _, _, R.at_ .lib trivial, T.c_Library, T.n_Library_works, lF_works _ _ _ _ _⟩, R.at_ .works trivial⟩
theorem ev_works {σ : L2.St} {ta : TE} (T : Txt K mg) (R : Rep K H A D b a) (h : Ev ta σ H (dV (.ref (A .lib)))) : Ev (tFld K ta "works") σ H (dL (refs (fun i => A (.work i)) a.works.length)) := ev_fldL h (R.works T)
theorem ev_works_at {σ : L2.St} {ta tb : TE} {i : Nat} (T : Txt K mg) (R : Rep K H A D b a) (h : Ev ta σ H (dV (.ref (A .lib)))) (hb : Ev tb σ H (dV (.int (i : Nat)))) (hi : i < a.works.length) : Ev (tOp (rIxL K) (tFld K ta "works") tb) σ H (dV (.ref (A (.work i)))) := ev_ixD (ev_works T R h) hb (atI_refs hi)
theorem ev_works_len {σ : L2.St} {ta : TE} (T : Txt K mg) (R : Rep K H A D b a) (h : Ev ta σ H (dV (.ref (A .lib)))) : Ev (tCB (Evl.rLenS K) (tCons (tFld K ta "works") tNil)) σ H (dV (.int (a.works.length : Nat))) := (ev_lenD (ev_works T R h)).is (by rw [refs_len])
theorem Rep.kits (T : Txt K mg) (R : Rep K H A D b a) : FldL K H (A .lib) "kits" (refs (fun i => A (.kit i)) a.sets.length) := ⟨_, ⟨_, _, _, R.at_ .lib trivial, T.c_Library, T.n_Library_kits, lF_kits _ _ _ _ _⟩, R.at_ .kits trivial⟩
theorem ev_kits {σ : L2.St} {ta : TE} (T : Txt K mg) (R : Rep K H A D b a) (h : Ev ta σ H (dV (.ref (A .lib)))) : Ev (tFld K ta "kits") σ H (dL (refs (fun i => A (.kit i)) a.sets.length)) := ev_fldL h (R.kits T)
theorem ev_kits_at {σ : L2.St} {ta tb : TE} {i : Nat} (T : Txt K mg) (R : Rep K H A D b a) (h : Ev ta σ H (dV (.ref (A .lib)))) (hb : Ev tb σ H (dV (.int (i : Nat)))) (hi : i < a.sets.length) : Ev (tOp (rIxL K) (tFld K ta "kits") tb) σ H (dV (.ref (A (.kit i)))) := ev_ixD (ev_kits T R h) hb (atI_refs hi)
theorem ev_kits_len {σ : L2.St} {ta : TE} (T : Txt K mg) (R : Rep K H A D b a) (h : Ev ta σ H (dV (.ref (A .lib)))) : Ev (tCB (Evl.rLenS K) (tCons (tFld K ta "kits") tNil)) σ H (dV (.int (a.sets.length : Nat))) := (ev_lenD (ev_kits T R h)).is (by rw [refs_len])
theorem Rep.hirings (T : Txt K mg) (R : Rep K H A D b a) : FldL K H (A .lib) "hirings" (refs (fun i => A (.hir i)) a.hires.length) := ⟨_, ⟨_, _, _, R.at_ .lib trivial, T.c_Library, T.n_Library_hirings, lF_hirings _ _ _ _ _⟩, R.at_ .hirs trivial⟩
theorem ev_hirings {σ : L2.St} {ta : TE} (T : Txt K mg) (R : Rep K H A D b a) (h : Ev ta σ H (dV (.ref (A .lib)))) : Ev (tFld K ta "hirings") σ H (dL (refs (fun i => A (.hir i)) a.hires.length)) := ev_fldL h (R.hirings T)
theorem ev_hirings_at {σ : L2.St} {ta tb : TE} {i : Nat} (T : Txt K mg) (R : Rep K H A D b a) (h : Ev ta σ H (dV (.ref (A .lib)))) (hb : Ev tb σ H (dV (.int (i : Nat)))) (hi : i < a.hires.length) : Ev (tOp (rIxL K) (tFld K ta "hirings") tb) σ H (dV (.ref (A (.hir i)))) := ev_ixD (ev_hirings T R h) hb (atI_refs hi)
theorem ev_hirings_len {σ : L2.St} {ta : TE} (T : Txt K mg) (R : Rep K H A D b a) (h : Ev ta σ H (dV (.ref (A .lib)))) : Ev (tCB (Evl.rLenS K) (tCons (tFld K ta "hirings") tNil)) σ H (dV (.int (a.hires.length : Nat))) := (ev_lenD (ev_hirings T R h)).is (by rw [refs_len])
end
end Pl

/-! ### the promises -/
namespace Pl
open PySem PySem.Spec PyProof.Rows L2
open Kv321 (Abs Hire Set_ at5 map5 five okDesks okDays)
/-- the other hires' place: none is told as -1 -/
def bI : Option Nat → Int
  | none => -1
  | some h => (h : Int)
/-- loose parts of a hire's work that hires that are out have -/
def outSum (a : Abs) (w i : Nat) : Nat := ((a.hires.filter fun h => h.work == w && h.how == 1).map fun h => at5 h.loose i).sum
structure Wf (a : Abs) : Prop where
  nW : a.works.length ≤ 8
  nS : a.sets.length ≤ 12
  nH : a.hires.length ≤ 40
  tn : a.turn ≤ 14
  fn : a.fine ≤ 1000
  wk : ∀ i, i < a.works.length → (a.work i).loose.length = 5 ∧ (a.work i).winds ≤ 30 ∧ (a.work i).fee ≤ 10000 ∧ (a.work i).more ≤ 10000 ∧ (a.work i).price ≤ 1000
  st : ∀ i, i < a.sets.length → (a.set i).work < a.works.length ∧ (a.set i).strings.length = 5 ∧ (a.set i).gone.length = 5 ∧ (∀ j, j < 5 → at5 (a.set i).gone j ≤ at5 (a.set i).strings j) ∧ (a.set i).missing.length ≤ (a.work (a.set i).work).winds
  hr : ∀ i, i < a.hires.length → (a.hire i).work < a.works.length ∧ (a.hire i).set < a.sets.length ∧ (a.hire i).desks.length = 5 ∧ (a.hire i).loose.length = 5 ∧ 1 ≤ (a.hire i).concerts ∧ 1 ≤ (a.hire i).days ∧ (a.hire i).from_ + (a.hire i).days ≤ 1000
  ou : ∀ i, i < a.hires.length → (a.hire i).how = 1 → (a.hire i).from_ ≤ a.today
  sw : ∀ i, i < a.hires.length → (a.set (a.hire i).set).work = (a.hire i).work
  ln : ∀ w i, outSum a w i ≤ at5 (a.work w).loose i
/-- a hire's numbers, be it booked or not -/
structure HirOk (a : Abs) (z : Hire) : Prop where
  wk : z.work < a.works.length
  ds : z.desks.length = 5
  dy : 1 ≤ z.days
  en : z.from_ + z.days ≤ 1000
/-- free loose parts as a whole number: below 0 where fewer are left than are put by -/
def freeI (a : Abs) (x : Option Nat) (w i d : Nat) : Int := (at5 (a.work w).loose i : Int) - (a.lent x w i d : Int)
/-- the least of them on k + 1 days from f on -/
def leastI (a : Abs) (x : Option Nat) (w i f : Nat) : Nat → Int
  | 0 => freeI a x w i f
  | k + 1 => if freeI a x w i (f + 1 + k) < leastI a x w i f k then freeI a x w i (f + 1 + k) else leastI a x w i f k
def enoughI (f g : Nat → Int) : Bool := (List.range 5).all fun i => decide (f i = 0) || decide (f i ≤ g i)
def kitFree (a : Abs) (x : Option Nat) (s f e : Nat) : Bool := (a.others x).all fun h => !((a.hire h).set == s && (decide ((a.hire h).how < 2) && (decide ((a.hire h).from_ < e) && decide (f < a.over (a.hire h)))))
def hasOn (a : Abs) (z : Hire) (d : Nat) : Bool := decide (z.how < 2) && (decide (z.from_ ≤ d) && decide (d < a.over z))
def inWay (a : Abs) (h d : Nat) : Bool := ((List.range a.hires.length).any fun o => h != o && ((a.hire o).set == (a.hire h).set && hasOn a (a.hire o) d)) || !(enoughI (fun i => (at5 (a.hire h).loose i : Int)) fun i => freeI a (some h) (a.hire h).work i d)
def sentWhy (a : Abs) (h : Nat) : Int :=
  let z := a.hire h
  if a.today < z.from_ then -13 else if a.out z.set then -17 else if (a.set z.set).missing ≠ [] then -12 else if z.clean ∧ (a.set z.set).marked.isSome then -19 else if a.short h then -33 else 0
def askWhy (a : Abs) (w f n : Nat) (k : List Nat) : Int := if a.hasW w = false then -2 else if okDays a f n = false ∨ okDesks k = false then -22 else 0
/-- the best of some sets: the least triple's last number -/
def rankI (a : Abs) (k : List Nat) (s : Nat) : List Int := [((a.key k s).1 : Int), ((a.key k s).2 : Int), (s : Int)]
def bestI (a : Abs) (k : List Nat) (s : Nat) (r : List Nat) : Int := (minL (rankI a k s) (r.map (rankI a k))).getD 2 0
section
variable (K : PySem.W.Frag)
abbrev Pre := List V → Hp → Dsc → Prop
def pr_are_parts : Pre := fun vs H d => ∃ p l, vs = [.ref p] ∧ H p = some (.lst (vns l)) ∧ d = dV (.bl (okDesks l))
def pr_there_of : Pre := fun vs H d => ∃ x k, vs = [.ref x] ∧ Kit K H x k ∧ k.strings.length = 5 ∧ k.gone.length = 5 ∧ d = dN (lF5 fun i => (at5 k.strings i : Int) - (at5 k.gone i : Int))
def pr_last_day : Pre := fun vs H d => ∃ x z, vs = [.ref x] ∧ Hir K H x z ∧ d = dV (.int ((z.from_ : Int) + (z.days : Int) - 1))
def pr_is_on : Pre := fun vs H d => ∃ x z, vs = [.ref x] ∧ Hir K H x z ∧ d = dV (.bl (decide (z.how < 2)))
def pr_over_day : Pre := fun vs H d => ∃ A D b a x z, vs = [.ref (A .lib), .ref x] ∧ Rep K H A D b a ∧ Hir K H x z ∧ d = dV (.int ((a.over z : Nat) : Int))
def pr_has_on : Pre := fun vs H d => ∃ A D b a x z n, vs = [.ref (A .lib), .ref x, .int ((n : Nat) : Int)] ∧ Rep K H A D b a ∧ Hir K H x z ∧ d = dV (.bl (hasOn a z n))
def pr_late_by : Pre := fun vs H d => ∃ A D b a x z, vs = [.ref (A .lib), .ref x] ∧ Rep K H A D b a ∧ Hir K H x z ∧ d = dV (.int ((a.late z : Nat) : Int))
def pr_is_out : Pre := fun vs H d => ∃ A D b a s, vs = [.ref (A .lib), .int ((s : Nat) : Int)] ∧ Rep K H A D b a ∧ Wf a ∧ d = dV (.bl (a.out s))
def pr_others_of : Pre := fun vs H d => ∃ A D b a w x, vs = [.ref (A .lib), .int ((w : Nat) : Int), .int (bI x)] ∧ Rep K H A D b a ∧ Wf a ∧ d = dN (((a.others x).filter fun h => (a.hire h).work == w && decide ((a.hire h).how < 2)).map fun h => .ref (A (.hir h)))
def pr_free_on : Pre := fun vs H d => ∃ A D b a w n x, vs = [.ref (A .lib), .int ((w : Nat) : Int), .int ((n : Nat) : Int), .int (bI x)] ∧ Rep K H A D b a ∧ Wf a ∧ w < a.works.length ∧ d = dN (lF5 fun i => freeI a x w i n)
def pr_least_free : Pre := fun vs H d => ∃ A D b a w f e x, vs = [.ref (A .lib), .int ((w : Nat) : Int), .int ((f : Nat) : Int), .int ((e : Nat) : Int), .int (bI x)] ∧ Rep K H A D b a ∧ Wf a ∧ w < a.works.length ∧ f < e ∧ e ≤ 20000 ∧ d = dN (lF5 fun i => leastI a x w i f (e - (f + 1)))
def pr_are_enough : Pre := fun vs H d => ∃ p q f g, vs = [.ref p, .ref q] ∧ H p = some (.lst (lF5 f)) ∧ H q = some (.lst (lF5 g)) ∧ d = dV (.bl (enoughI f g))
def lackN (k : Set_) (ds : List Nat) : List Nat := map5 fun i => at5 ds i - (at5 k.strings i - at5 k.gone i)
structure KitOk (k : Set_) : Prop where
  s5 : k.strings.length = 5
  g5 : k.gone.length = 5
  le : ∀ j, j < 5 → at5 k.gone j ≤ at5 k.strings j
def pr_lack_of : Pre := fun vs H d => ∃ x k p l, vs = [.ref x, .ref p] ∧ Kit K H x k ∧ KitOk k ∧ H p = some (.lst (vns l)) ∧ l.length = 5 ∧ d = dN (vns (lackN k l))
def pr_extra_of : Pre := fun vs H d => ∃ x k p l, vs = [.ref x, .ref p] ∧ Kit K H x k ∧ KitOk k ∧ H p = some (.lst (vns l)) ∧ l.length = 5 ∧ d = dV (.int (((map5 fun i => (at5 k.strings i - at5 k.gone i) - at5 l i).sum : Nat) : Int))
def pr_is_kit_free : Pre := fun vs H d => ∃ A D b a s f e x, vs = [.ref (A .lib), .int ((s : Nat) : Int), .int ((f : Nat) : Int), .int ((e : Nat) : Int), .int (bI x)] ∧ Rep K H A D b a ∧ Wf a ∧ d = dV (.bl (kitFree a x s f e))
def pr_end_of : Pre := fun vs H d => ∃ A D b a f n, vs = [.ref (A .lib), .int ((f : Nat) : Int), .int ((n : Nat) : Int)] ∧ Rep K H A D b a ∧ d = dV (.int ((f + n + a.turn : Nat) : Int))
def pr_does : Pre := fun vs H d => ∃ A D b a s x z q x', vs = [.ref (A .lib), .int ((s : Nat) : Int), .ref x, .ref q, .int (bI x')] ∧ Rep K H A D b a ∧ Wf a ∧ s < a.sets.length ∧ Hir K H x z ∧ HirOk a z ∧ H q = some (.lst (lF5 fun i => leastI a x' z.work i z.from_ (z.days + a.turn - 1))) ∧ d = dV (.bl (a.does_ x' z.work z.from_ z.days z.desks s))
def pr_free_for : Pre := fun vs H d => ∃ A D b a x z x', vs = [.ref (A .lib), .ref x, .int (bI x')] ∧ Rep K H A D b a ∧ Wf a ∧ Hir K H x z ∧ HirOk a z ∧ d = dN (lF5 fun i => leastI a x' z.work i z.from_ (z.days + a.turn - 1))
def pr_that_do : Pre := fun vs H d => ∃ A D b a x z x', vs = [.ref (A .lib), .ref x, .int (bI x')] ∧ Rep K H A D b a ∧ Wf a ∧ Hir K H x z ∧ HirOk a z ∧ d = dN (vns ((List.range a.sets.length).filter (a.does_ x' z.work z.from_ z.days z.desks)))
def pr_rank_of : Pre := fun vs H d => ∃ A D b a s p l, vs = [.ref (A .lib), .int ((s : Nat) : Int), .ref p] ∧ Rep K H A D b a ∧ Wf a ∧ s < a.sets.length ∧ H p = some (.lst (vns l)) ∧ l.length = 5 ∧ d = dT ((rankI a l s).map .int)
def pr_best_of : Pre := fun vs H d => ∃ A D b a q s r p l, vs = [.ref (A .lib), .ref q, .ref p] ∧ Rep K H A D b a ∧ Wf a ∧ H q = some (.lst (vns (s :: r))) ∧ (∀ t ∈ s :: r, t < a.sets.length) ∧ (s :: r).length ≤ 12 ∧ H p = some (.lst (vns l)) ∧ l.length = 5 ∧ d = dV (.int (bestI a l s r))
def pr_are_days_right : Pre := fun vs H d => ∃ A D b a f n, vs = [.ref (A .lib), .int ((f : Nat) : Int), .int ((n : Nat) : Int)] ∧ Rep K H A D b a ∧ d = dV (.bl (okDays a f n))
def pr_is_in_way : Pre := fun vs H d => ∃ A D b a h n, vs = [.ref (A .lib), .int ((h : Nat) : Int), .int ((n : Nat) : Int)] ∧ Rep K H A D b a ∧ Wf a ∧ h < a.hires.length ∧ d = dV (.bl (inWay a h n))
def pr_is_any_in_way : Pre := fun vs H d => ∃ A D b a h n, vs = [.ref (A .lib), .int ((h : Nat) : Int), .int ((n : Nat) : Int)] ∧ Rep K H A D b a ∧ Wf a ∧ h < a.hires.length ∧ n ≤ 1000 ∧ d = dV (.bl ((List.range (n + a.turn)).any fun j => inWay a h ((a.hire h).from_ + j)))
def pr_why_not_sent : Pre := fun vs H d => ∃ A D b a h, vs = [.ref (A .lib), .int ((h : Nat) : Int)] ∧ Rep K H A D b a ∧ Wf a ∧ h < a.hires.length ∧ d = dV (.int (sentWhy a h))
def pr_sent_of : Pre := fun vs H d => ∃ A D b a x z, vs = [.ref (A .lib), .ref x] ∧ Rep K H A D b a ∧ Wf a ∧ Hir K H x z ∧ z.set < a.sets.length ∧ z.loose.length = 5 ∧ d = dN (vns (a.sent z))
def pr_are_winds : Pre := fun vs H d => ∃ x v p l, vs = [.ref x, .ref p] ∧ Wrk K H x v ∧ H p = some (.lst (vns l)) ∧ l.length ≤ 1000 ∧ d = dV (.bl (Kv321.rising l && !(l.any fun y => decide (v.winds ≤ y))))
def pr_are_lost : Pre := fun vs H d => ∃ A D b a x z p l, vs = [.ref (A .lib), .ref x, .ref p] ∧ Rep K H A D b a ∧ Wf a ∧ Hir K H x z ∧ z.set < a.sets.length ∧ z.loose.length = 5 ∧ H p = some (.lst (vns l)) ∧ d = dV (.bl (decide (l.length = 5) && !((List.range 5).any fun i => decide (at5 (a.sent z) i < at5 l i))))
def pr_bill_of : Pre := fun vs H d => ∃ A D b a x z n, vs = [.ref (A .lib), .ref x, .int ((n : Nat) : Int)] ∧ Rep K H A D b a ∧ Wf a ∧ Hir K H x z ∧ z.work < a.works.length ∧ 1 ≤ z.concerts ∧ d = dV (.int ((a.bill z n : Nat) : Int))
def pr_why_not_asked : Pre := fun vs H d => ∃ A D b a q w f n p l, vs = [.ref (A .lib), .ref q, .ref p] ∧ Rep K H A D b a ∧ H q = some (.lst (vns [w, f, n])) ∧ H p = some (.lst (vns l)) ∧ d = dV (.int (askWhy a w f n l))
def pr_some_that_do : Pre := fun vs H d => ∃ A D b a q w f n p l, vs = [.ref (A .lib), .ref q, .ref p] ∧ Rep K H A D b a ∧ Wf a ∧ H q = some (.lst (vns [w, f, n])) ∧ H p = some (.lst (vns l)) ∧ w < a.works.length ∧ okDays a f n = true ∧ okDesks l = true ∧ d = dN (vns (a.sets_ w f n l))
def pr_having_on : Pre := fun vs H d => ∃ A D b a w n, vs = [.ref (A .lib), .int ((w : Nat) : Int), .int ((n : Nat) : Int)] ∧ Rep K H A D b a ∧ Wf a ∧ d = dV (.int ((a.onDay w n : Nat) : Int))
end
def sp_are_parts (K : PySem.W.Frag) : Sp := Pu (pr_are_parts)
def sp_there_of (K : PySem.W.Frag) : Sp := Pu (pr_there_of K)
def sp_last_day (K : PySem.W.Frag) : Sp := Pu (pr_last_day K)
def sp_is_on (K : PySem.W.Frag) : Sp := Pu (pr_is_on K)
def sp_over_day (K : PySem.W.Frag) : Sp := Pu (pr_over_day K)
def sp_has_on (K : PySem.W.Frag) : Sp := Pu (pr_has_on K)
def sp_late_by (K : PySem.W.Frag) : Sp := Pu (pr_late_by K)
def sp_is_out (K : PySem.W.Frag) : Sp := Pu (pr_is_out K)
def sp_others_of (K : PySem.W.Frag) : Sp := Pu (pr_others_of K)
def sp_free_on (K : PySem.W.Frag) : Sp := Pu (pr_free_on K)
def sp_least_free (K : PySem.W.Frag) : Sp := Pu (pr_least_free K)
def sp_are_enough (K : PySem.W.Frag) : Sp := Pu (pr_are_enough)
def sp_lack_of (K : PySem.W.Frag) : Sp := Pu (pr_lack_of K)
def sp_extra_of (K : PySem.W.Frag) : Sp := Pu (pr_extra_of K)
def sp_is_kit_free (K : PySem.W.Frag) : Sp := Pu (pr_is_kit_free K)
def sp_end_of (K : PySem.W.Frag) : Sp := Pu (pr_end_of K)
def sp_does (K : PySem.W.Frag) : Sp := Pu (pr_does K)
def sp_free_for (K : PySem.W.Frag) : Sp := Pu (pr_free_for K)
def sp_that_do (K : PySem.W.Frag) : Sp := Pu (pr_that_do K)
def sp_rank_of (K : PySem.W.Frag) : Sp := Pu (pr_rank_of K)
def sp_best_of (K : PySem.W.Frag) : Sp := Pu (pr_best_of K)
def sp_are_days_right (K : PySem.W.Frag) : Sp := Pu (pr_are_days_right K)
def sp_is_in_way (K : PySem.W.Frag) : Sp := Pu (pr_is_in_way K)
def sp_is_any_in_way (K : PySem.W.Frag) : Sp := Pu (pr_is_any_in_way K)
def sp_why_not_sent (K : PySem.W.Frag) : Sp := Pu (pr_why_not_sent K)
def sp_sent_of (K : PySem.W.Frag) : Sp := Pu (pr_sent_of K)
def sp_are_winds (K : PySem.W.Frag) : Sp := Pu (pr_are_winds K)
def sp_are_lost (K : PySem.W.Frag) : Sp := Pu (pr_are_lost K)
def sp_bill_of (K : PySem.W.Frag) : Sp := Pu (pr_bill_of K)
def sp_why_not_asked (K : PySem.W.Frag) : Sp := Pu (pr_why_not_asked K)
def sp_some_that_do (K : PySem.W.Frag) : Sp := Pu (pr_some_that_do K)
def sp_having_on (K : PySem.W.Frag) : Sp := Pu (pr_having_on K)
end Pl

/-! ### the promises of what changes the state -/
namespace Pl
open PySem PySem.Spec PyProof.Rows L2
open Kv321 (Abs Hire Set_ at5 map5 five okDesks okDays)
def Exx (x : Addr) (H H' : Hp) : Prop := ∀ q o, q ≠ x → H q = some o → H' q = some o
/-- what is kept from heap G with the state a at A on -/
structure Stp (G : Hp) (A : Tag → Addr) (a : Abs) (H : Hp) (A' : Tag → Addr) (a' : Abs) : Prop where
  keep : ∀ p o, G p = some o → ¬ Own A a p → H p = some o
  own : ∀ q, Own A' a' q → Own A a q ∨ G q = none
  dom : ∀ q, H q = none → G q = none
def ansL (x : Kv321.Ans) : List V := .int x.ret :: vns x.nums
def begins : Kv321.Call → Bool
  | .begin_ t f => decide (t ≤ 14) && decide (f ≤ 1000)
  | _ => false
def nb (b : Bool) (c : Kv321.Call) : Bool := b || begins c
/-- the call that a place's numbers and rows tell -/
def mk (k : Nat) (ns : List Nat) (ls : List (List Nat)) (c : Kv321.Call) : Prop := match k with
  | 0 => ∃ x0 x1, ns = [x0, x1] ∧ ls = [] ∧ c = .begin_ x0 x1
  | 1 => ∃ x0 x1 x2 x3, ns = [x0, x1, x2, x3] ∧ ls = [] ∧ c = .work x0 x1 x2 x3
  | 2 => ∃ x0 r0, ns = [x0] ∧ ls = [r0] ∧ c = .set x0 r0
  | 3 => ∃ x0 x1 x2, ns = [x0, x1, x2] ∧ ls = [] ∧ c = .loose x0 x1 x2
  | 4 => ∃ x0 x1 x2 x3 x4 r0, ns = [x0, x1, x2, x3, x4] ∧ ls = [r0] ∧ c = .hire x0 x1 x2 x3 x4 r0
  | 5 => ∃ x0, ns = [x0] ∧ ls = [] ∧ c = .cancel x0
  | 6 => ∃ x0, ns = [x0] ∧ ls = [] ∧ c = .send x0
  | 7 => ∃ x0 r0 r1, ns = [x0] ∧ ls = [r0, r1] ∧ c = .back x0 r0 r1
  | 8 => ∃ x0, ns = [x0] ∧ ls = [] ∧ c = .replace x0
  | 9 => ∃ x0, ns = [x0] ∧ ls = [] ∧ c = .rub x0
  | 10 => ∃ x0 x1, ns = [x0, x1] ∧ ls = [] ∧ c = .longer x0 x1
  | 11 => ∃ x0 x1, ns = [x0, x1] ∧ ls = [] ∧ c = .swap x0 x1
  | 12 => ∃ x0, ns = [x0] ∧ ls = [] ∧ c = .days x0
  | 13 => ∃ x0 x1 x2 r0, ns = [x0, x1, x2] ∧ ls = [r0] ∧ c = .could x0 x1 x2 r0
  | 14 => ∃ x0 x1 x2 r0, ns = [x0, x1, x2] ∧ ls = [r0] ∧ c = .choices x0 x1 x2 r0
  | 15 => ∃ x0, ns = [x0] ∧ ls = [] ∧ c = .slack x0
  | 16 => ∃ x0, ns = [x0] ∧ ls = [] ∧ c = .most x0
  | 17 => ∃ x0 x1 x2, ns = [x0, x1, x2] ∧ ls = [] ∧ c = .free x0 x1 x2
  | 18 => ∃ x0 r0, ns = [x0] ∧ ls = [r0] ∧ c = .lacks x0 r0
  | 19 => ∃ x0, ns = [x0] ∧ ls = [] ∧ c = .plan x0
  | 20 => ns = [] ∧ ls = [] ∧ c = .due
  | 21 => ∃ x0, ns = [x0] ∧ ls = [] ∧ c = .lost x0
  | 22 => ns = [] ∧ ls = [] ∧ c = .torn
  | 23 => ∃ x0, ns = [x0] ∧ ls = [] ∧ c = .has x0
  | 24 => ∃ x0, ns = [x0] ∧ ls = [] ∧ c = .bill x0
  | 25 => ∃ x0, ns = [x0] ∧ ls = [] ∧ c = .late x0
  | 26 => ns = [] ∧ ls = [] ∧ c = .shelf
  | 27 => ∃ x0, ns = [x0] ∧ ls = [] ∧ c = .look x0
  | 28 => ∃ x0, ns = [x0] ∧ ls = [] ∧ c = .marks x0
  | 29 => ns = [] ∧ ls = [] ∧ c = .sums
  | 30 => ns = [] ∧ ls = [] ∧ c = .state
  | _ => False
/-- the arguments of a deed -/
structure Ask (H : Hp) (A : Tag → Addr) (a : Abs) (pn pl : Addr) (ps : List Addr) (ns : List Nat) (ls : List (List Nat)) : Prop where
  hn : H pn = some (.lst (vns ns))
  on : ¬ Own A a pn
  hl : H pl = some (.lst (ps.map V.ref))
  ol : ¬ Own A a pl
  rw : Paired (fun (p : Addr) (l : List Nat) => H p = some (.lst (vns l)) ∧ ¬ Own A a p ∧ l.length ≤ 1000) ps ls
/-- what a deed leaves -/
def dP (K : PySem.W.Frag) (A : Tag → Addr) (b : Bool) (a : Abs) (c : Kv321.Call) : Post := ⟨fun G v H => ∃ A' D' p, v = .ref p ∧ G p = none ∧ H p = some (.lst (ansL (a.does c).2)) ∧ Rep K H A' D' (nb b c) (a.does c).1 ∧ A' .lib = A .lib ∧ Stp G A a H A' (a.does c).1,
  fun e ⟨A', D', p, h1, h2, h3, h4, h5, h6⟩ => ⟨A', D', p, h1, fresh_back e h2, h3, h4, h5, fun p o h n => h6.keep p o (e _ _ h) n, fun q h => (h6.own q h).imp id (fresh_back e), fun q h => fresh_back e (h6.dom q h)⟩⟩
def spDeed (K : PySem.W.Frag) (k : Nat) : Sp := fun vs H Q _ => ∃ A D b a c pn pl ps ns ls, vs = [.ref (A .lib), .ref pn, .ref pl] ∧ Rep K H A D b a ∧ Wf a ∧ Ask H A a pn pl ps ns ls ∧ mk k ns ls c ∧ ∀ v H2, (dP K A b a c).is H v H2 → Q v H2
def sp_begin (K : PySem.W.Frag) : Sp := spDeed K 0
def sp_put_work (K : PySem.W.Frag) : Sp := spDeed K 1
def sp_put_kit (K : PySem.W.Frag) : Sp := spDeed K 2
def sp_put_loose (K : PySem.W.Frag) : Sp := spDeed K 3
def sp_hire (K : PySem.W.Frag) : Sp := spDeed K 4
def sp_cancel (K : PySem.W.Frag) : Sp := spDeed K 5
def sp_send (K : PySem.W.Frag) : Sp := spDeed K 6
def sp_back (K : PySem.W.Frag) : Sp := spDeed K 7
def sp_replace (K : PySem.W.Frag) : Sp := spDeed K 8
def sp_rub (K : PySem.W.Frag) : Sp := spDeed K 9
def sp_longer (K : PySem.W.Frag) : Sp := spDeed K 10
def sp_swap (K : PySem.W.Frag) : Sp := spDeed K 11
def sp_go_on (K : PySem.W.Frag) : Sp := spDeed K 12
def sp_could (K : PySem.W.Frag) : Sp := spDeed K 13
def sp_choices (K : PySem.W.Frag) : Sp := spDeed K 14
def sp_slack (K : PySem.W.Frag) : Sp := spDeed K 15
def sp_most (K : PySem.W.Frag) : Sp := spDeed K 16
def sp_free (K : PySem.W.Frag) : Sp := spDeed K 17
def sp_lacks (K : PySem.W.Frag) : Sp := spDeed K 18
def sp_plan (K : PySem.W.Frag) : Sp := spDeed K 19
def sp_due (K : PySem.W.Frag) : Sp := spDeed K 20
def sp_lost (K : PySem.W.Frag) : Sp := spDeed K 21
def sp_torn (K : PySem.W.Frag) : Sp := spDeed K 22
def sp_has (K : PySem.W.Frag) : Sp := spDeed K 23
def sp_bill (K : PySem.W.Frag) : Sp := spDeed K 24
def sp_late (K : PySem.W.Frag) : Sp := spDeed K 25
def sp_shelf (K : PySem.W.Frag) : Sp := spDeed K 26
def sp_look (K : PySem.W.Frag) : Sp := spDeed K 27
def sp_marks (K : PySem.W.Frag) : Sp := spDeed K 28
def sp_sums (K : PySem.W.Frag) : Sp := spDeed K 29
def sp_state (K : PySem.W.Frag) : Sp := spDeed K 30
def deeds (K : PySem.W.Frag) (g : Addr) (sp : Sp) : Prop := ∃ k x, tb_DEEDS[k]? = some (.glo x) ∧ g = He.ga K x ∧ sp = spDeed K k
def sp_init_Work (K : PySem.W.Frag) : Sp := fun vs H Q _ => ∃ x dx n f m p, vs = [.ref x, .int ((n : Nat) : Int), .int ((f : Nat) : Int), .int ((m : Nat) : Int), .int ((p : Nat) : Int)] ∧ H x = some (.ins (He.ga K "Work") dx []) ∧
  ∀ l H2, H l = none → Exx x H H2 → H2 x = some (.ins (He.ga K "Work") dx (wF ⟨n, f, m, p, five⟩ l)) → H2 l = some (.lst (vns five)) → Q .non H2
def sp_init_Kit (K : PySem.W.Frag) : Sp := fun vs H Q _ => ∃ x dx w d, vs = [.ref x, .int ((w : Nat) : Int), .ref d] ∧ H x = some (.ins (He.ga K "Kit") dx []) ∧
  ∀ m g H2, H m = none → H g = none → m ≠ g → Exx x H H2 → H2 x = some (.ins (He.ga K "Kit") dx (kF ⟨w, [], [], five, none⟩ d m g)) → H2 m = some (.lst (vns [])) → H2 g = some (.lst (vns five)) → Q .non H2
def sp_init_Hiring (K : PySem.W.Frag) : Sp := fun vs H Q _ => ∃ x dx w f n c cl d, vs = [.ref x, .int ((w : Nat) : Int), .int ((f : Nat) : Int), .int ((n : Nat) : Int), .int ((c : Nat) : Int), .int (clI cl), .ref d] ∧ H x = some (.ins (He.ga K "Hiring") dx []) ∧
  ∀ p H2, H p = none → Exx x H H2 → H2 x = some (.ins (He.ga K "Hiring") dx (hF ⟨w, f, n, [], c, cl, 0, five, 0⟩ d p)) → H2 p = some (.lst (vns five)) → Q .non H2
def sp_init_Library (K : PySem.W.Frag) : Sp := fun vs H Q _ => ∃ x dx, vs = [.ref x] ∧ H x = some (.ins (He.ga K "Library") dx []) ∧
  ∀ w k h H2, H w = none → H k = none → H h = none → w ≠ k → w ≠ h → k ≠ h → Exx x H H2 → H2 x = some (.ins (He.ga K "Library") dx (lF false (Kv321.begun 0 0) w k h)) → H2 w = some (.lst []) → H2 k = some (.lst []) → H2 h = some (.lst []) → Q .non H2
def looseI (a : Abs) (h : Nat) (l : List Nat) : Nat → Int := fun i => (at5 (a.work (a.hire h).work).loose i : Int) - ((min (at5 l i) (at5 (a.hire h).loose i) : Nat) : Int)
def goneI (a : Abs) (h : Nat) (l : List Nat) : Nat → Int := fun i => (at5 (a.set (a.hire h).set).gone i : Int) + ((at5 l i - min (at5 l i) (at5 (a.hire h).loose i) : Nat) : Int)
def sp_lose_strings (K : PySem.W.Frag) : Sp := fun vs H Q _ => ∃ A D b a h q l, vs = [.ref (A .lib), .ref (A (.hir h)), .ref q] ∧ Rep K H A D b a ∧ h < a.hires.length ∧ (a.hire h).work < a.works.length ∧ (a.hire h).set < a.sets.length ∧ (a.work (a.hire h).work).loose.length = 5 ∧ (a.set (a.hire h).set).gone.length = 5 ∧ (a.hire h).loose.length = 5 ∧
  H q = some (.lst (vns l)) ∧ ¬ Own A a q ∧ l.length = 5 ∧ ∀ H2, Ex (upd (upd H (A (.loose (a.hire h).work)) (.lst (lF5 (looseI a h l)))) (A (.gone (a.hire h).set)) (.lst (lF5 (goneI a h l)))) H2 → Q .non H2
def sp_rows_at (K : PySem.W.Frag) : Sp := fun vs H Q _ => ∃ (c : Addr) (xs : List Int) (at_ : Nat) (rs : List (List Int)) (rest : List Int), vs = [.ref c, .int ((at_ : Nat) : Int), .int ((rs.length : Nat) : Int)] ∧ SqL K H c (xs.map V.int) ∧ at_ ≤ xs.length ∧ xs.drop at_ = PyFlat.putRows rs ++ rest ∧ rs.length ≤ 2 ∧
  ∀ T pl ps H2, Ex H H2 → H2 T = some (.tup [.ref pl, .int ((xs.length - rest.length : Nat) : Int)]) → H pl = none → H2 pl = some (.lst (ps.map V.ref)) → Paired (fun (p : Addr) (r : List Int) => H p = none ∧ H2 p = some (.lst (r.map V.int))) ps rs → Q (.ref T) H2
def stO (b : Bool) (a : Abs) : Kv321.State := if b then some a else none
def sp_answer_to (K : PySem.W.Frag) : Sp := fun vs H Q _ => ∃ A D b a k c pn pl ps ns ls, vs = [.ref (A .lib), .int ((k : Nat) : Int), .ref pn, .ref pl] ∧ Rep K H A D b a ∧ Wf a ∧ Ask H A a pn pl ps ns ls ∧ k < 31 ∧ mk k ns ls c ∧
  ∀ A' D' b' a' p H2, Rep K H2 A' D' b' a' → Wf a' → A' .lib = A .lib → Stp H A a H2 A' a' → H p = none → (Kv321.act (stO b a) c).1 = stO b' a' → H2 p = some (.lst (ansL (Kv321.act (stO b a) c).2)) → Q (.ref p) H2
def sp_answers (K : PySem.W.Frag) : Sp := fun vs H Q _ => ∃ (c : Addr) (xs : List Int), vs = [.ref c] ∧ SqL K H c (xs.map V.int) ∧ PyKv321.answers_asked xs = true ∧ ∀ p H2, H2 p = some (.lst ((PyKv321.answers xs).map V.int)) → Q (.ref p) H2
/-- a call of a def that a local name holds, by a relation -/
def tCallR (i : Nat) (S : Addr → Sp → Prop) (t : TA) : TE := fun σ H Q => ∃ f sp, σ[i]? = some (some (.ref f)) ∧ S f sp ∧ t σ H fun vs H1 => sp vs H1 Q (fun _ _ _ => False)
theorem pe_callR {X : Cx} {k i : Nat} {x : Str} {p pos : Pos} {e : Expr} {es : List Expr} {t : TA} {S : Addr → Sp → Prop} (A : ∀ f sp, S f sp → Held X.prog X.w X.K X.mg X.base k f sp) (hr : Room k X.A) (hN : X.N[i]? = some x) (hv : Vis X.env.scope x) (ha : PA X (e :: es) t)
    (hcd : (x == ("__classdict__" : Str)) = false := by decide) (hdb : (x == ("__debug__" : Str)) = false := by decide)
    (he : starEach (e :: es) X.env = (false, eval e X.env) :: starEach es X.env := by rfl) (hpl : (backTo pos (starEach es X.env)).any (·.1) = false := by rfl) : PE X (.Call (.Name x p) (e :: es) [] pos) (tCallR i S t) := by
  refine ⟨fun pins s σ H Q I ⟨f, sp, hs, hS, ht⟩ => ?_⟩
  let S' : Addr → Option Sp := fun g => if g = f then some sp else none
  have hA : ∀ g sp', S' g = some sp' → Held X.prog X.w X.K X.mg X.base k g sp' := fun g sp' e => by
    by_cases z : g = f
    · have e' : some sp = some sp' := (if_pos z).symm.trans e
      rw [z, ← Option.some.inj e']
      exact A f sp hS
    · have e' : none = some sp' := (if_neg z).symm.trans e
      cases e'
  exact (pe_callA (S := S') hA hr hN hv ha hdb hcd he hpl).run pins s σ H Q I ⟨f, sp, hs, if_pos rfl, ht⟩
end Pl

namespace Pl
open PySem PySem.Spec PyProof.Rows L2
abbrev N_init_Work : List Str := ["self", "winds", "fee", "more", "price"]
/-- init_Work (level 1); slots: 0 self, 1 winds, 2 fee, 3 more, 4 price -/
def t_init_Work (K : PySem.W.Frag) : TS := (tSeq (sFld K (tVar 0) (tVar 1) "winds")
    (tSeq (sFld K (tVar 0) (tVar 2) "fee")
    (tSeq (sFld K (tVar 0) (tVar 3) "more")
    (tSeq (sFld K (tVar 0) (tVar 4) "price")
    (sFld K (tVar 0) (tOp rRep (tLst (tCons (tC (.int 0)) tNil)) (tC (.int (5)))) "loose")))))
abbrev N_init_Kit : List Str := ["self", "work", "strings"]
/-- init_Kit (level 1); slots: 0 self, 1 work, 2 strings -/
def t_init_Kit (K : PySem.W.Frag) : TS := (tSeq (sFld K (tVar 0) (tVar 1) "work")
    (tSeq (sFld K (tVar 0) (tVar 2) "strings")
    (tSeq (sFld K (tVar 0) (tLst tNil) "missing")
    (tSeq (sFld K (tVar 0) (tOp rRep (tLst (tCons (tC (.int 0)) tNil)) (tC (.int (5)))) "gone")
    (sFld K (tVar 0) (tC (.int 0)) "marked")))))
abbrev N_init_Hiring : List Str := ["self", "work", "first", "spell", "concerts", "clean", "desks"]
/-- init_Hiring (level 1); slots: 0 self, 1 work, 2 first, 3 spell, 4 concerts, 5 clean, 6 desks -/
def t_init_Hiring (K : PySem.W.Frag) : TS := (tSeq (sFld K (tVar 0) (tVar 1) "work")
    (tSeq (sFld K (tVar 0) (tVar 2) "first")
    (tSeq (sFld K (tVar 0) (tVar 3) "spell")
    (tSeq (sFld K (tVar 0) (tVar 4) "concerts")
    (tSeq (sFld K (tVar 0) (tVar 5) "clean")
    (tSeq (sFld K (tVar 0) (tVar 6) "desks")
    (tSeq (sFld K (tVar 0) (tC (.int 0)) "kit")
    (tSeq (sFld K (tVar 0) (tOp rRep (tLst (tCons (tC (.int 0)) tNil)) (tC (.int (5)))) "put")
    (sFld K (tVar 0) (tC (.int (0))) "how")))))))))
abbrev N_init_Library : List Str := ["self"]
/-- init_Library (level 1); slots: 0 self -/
def t_init_Library (K : PySem.W.Frag) : TS := (tSeq (sFld K (tVar 0) (tC (.bl false)) "is_begun")
    (tSeq (sFld K (tVar 0) (tC (.int 0)) "turn")
    (tSeq (sFld K (tVar 0) (tC (.int 0)) "fine")
    (tSeq (sFld K (tVar 0) (tC (.int 0)) "today")
    (tSeq (sFld K (tVar 0) (tLst tNil) "works")
    (tSeq (sFld K (tVar 0) (tLst tNil) "kits")
    (tSeq (sFld K (tVar 0) (tLst tNil) "hirings")
    (tSeq (sFld K (tVar 0) (tC (.int 0)) "paid")
    (sFld K (tVar 0) (tC (.int 0)) "replaced")))))))))
abbrev N_are_parts : List Str := ["numbers", "number"]
/-- are_parts (level 1); slots: 0 numbers, 1 number -/
def t_are_parts (K : PySem.W.Frag) : TS := (tRet (tAndV (tOp rEq (tCB (Evl.rLenS K) (tCons (tVar 0) tNil)) (tC (.int (5)))) (tCB (rAll K) (tCons (tLc (iList K (tVar 0)) (gName 1) tYes (tOp rLeI (tVar 1) (tC (.int 20))) [1]) tNil))))
abbrev N_there_of : List Str := ["kit", "i"]
/-- there_of (level 1); slots: 0 kit, 1 i -/
def t_there_of (K : PySem.W.Frag) : TS := (tRet (tLc (iRng1 (tCons (tC (.int (5))) tNil)) (gName 1) tYes (tOp rSubI (tOp (rIxL K) (tFld K (tVar 0) "strings") (tVar 1)) (tOp (rIxL K) (tFld K (tVar 0) "gone") (tVar 1))) [1]))
abbrev N_last_day : List Str := ["hiring"]
/-- last_day (level 1); slots: 0 hiring -/
def t_last_day (K : PySem.W.Frag) : TS := (tRet (tOp rSubI (tOp rAddI (tFld K (tVar 0) "first") (tFld K (tVar 0) "spell")) (tC (.int 1))))
abbrev N_is_on : List Str := ["hiring"]
/-- is_on (level 1); slots: 0 hiring -/
def t_is_on (K : PySem.W.Frag) : TS := (tRet (tOrV (tOp rEq (tFld K (tVar 0) "how") (tC (.int (0)))) (tOp rEq (tFld K (tVar 0) "how") (tC (.int (1))))))
abbrev N_is_out : List Str := ["lib", "kit", "hiring"]
/-- is_out (level 1); slots: 0 lib, 1 kit, 2 hiring -/
def t_is_out (K : PySem.W.Frag) : TS := (tRet (tCB (rAny K) (tCons (tLc (iList K (tFld K (tVar 0) "hirings")) (gName 2) tYes (tAndV (tOp rEq (tFld K (tVar 2) "how") (tC (.int (1)))) (tOp rEq (tFld K (tVar 2) "kit") (tVar 1))) [2]) tNil)))
abbrev N_are_enough : List Str := ["wanted", "free", "i"]
/-- are_enough (level 1); slots: 0 wanted, 1 free, 2 i -/
def t_are_enough (K : PySem.W.Frag) : TS := (tRet (tCB (rAll K) (tCons (tLc (iRng1 (tCons (tC (.int (5))) tNil)) (gName 2) tYes (tOrV (tOp rEq (tOp (rIxL K) (tVar 0) (tVar 2)) (tC (.int 0))) (tOp rLeI (tOp (rIxL K) (tVar 0) (tVar 2)) (tOp (rIxL K) (tVar 1) (tVar 2)))) [2]) tNil)))
abbrev N_end_of : List Str := ["lib", "first", "spell"]
/-- end_of (level 1); slots: 0 lib, 1 first, 2 spell -/
def t_end_of (K : PySem.W.Frag) : TS := (tRet (tOp rAddI (tOp rAddI (tVar 1) (tVar 2)) (tFld K (tVar 0) "turn")))
abbrev N_are_days_right : List Str := ["lib", "first", "spell"]
/-- are_days_right (level 1); slots: 0 lib, 1 first, 2 spell -/
def t_are_days_right (K : PySem.W.Frag) : TS := (tSeq (tIfS (tOr (tTest (tOp rLtI (tVar 1) (tFld K (tVar 0) "today"))) (tNot (tTest (tChain rLeI rLeI (tC (.int 1)) (tVar 2) (tC (.int (60))))))) (tRet (tC (.bl false))) tNext)
    (tRet (tOp rLeI (tOp rAddI (tVar 1) (tVar 2)) (tC (.int (1000))))))
abbrev N_cancel : List Str := ["lib", "numbers", "lists", "hiring"]
/-- cancel (level 1); slots: 0 lib, 1 numbers, 2 lists, 3 hiring -/
def t_cancel (K : PySem.W.Frag) : TS := (tSeq (tIfS (tTest (tOp rGeI (tOp (rIxL K) (tVar 1) (tC (.int 0))) (tCB (Evl.rLenS K) (tCons (tFld K (tVar 0) "hirings") tNil)))) (tRet (tLst (tCons (tC (.int (-2))) tNil))) tNext)
    (tSeq (tAsg (tOp (rIxL K) (tFld K (tVar 0) "hirings") (tOp (rIxL K) (tVar 1) (tC (.int 0)))) (gName 3))
    (tSeq (tIfS (tTest (tOp rNe (tFld K (tVar 3) "how") (tC (.int (0))))) (tRet (tLst (tCons (tC (.int (-16))) tNil))) tNext)
    (tSeq (sFld K (tVar 3) (tC (.int (3))) "how")
    (tRet (tLst (tCons (tC (.int 0)) tNil)))))))
abbrev N_begin : List Str := ["lib", "numbers", "lists", "turn", "fine"]
/-- begin (level 1); slots: 0 lib, 1 numbers, 2 lists, 3 turn, 4 fine -/
def t_begin (K : PySem.W.Frag) : TS := (tSeq (tAsg (tVar 1) (gLst K 2 (gCons (gName 3) (gCons (gName 4) gNil))))
    (tSeq (tIfS (tOr (tTest (tOp rGtI (tVar 3) (tC (.int (14))))) (tTest (tOp rGtI (tVar 4) (tC (.int (1000)))))) (tRet (tLst (tCons (tC (.int (-22))) tNil))) tNext)
    (tSeq (sFld K (tVar 0) (tC (.bl true)) "is_begun")
    (tSeq (sFld K (tVar 0) (tVar 3) "turn")
    (tSeq (sFld K (tVar 0) (tVar 4) "fine")
    (tSeq (sFld K (tVar 0) (tC (.int 0)) "today")
    (tSeq (sFld K (tVar 0) (tLst tNil) "works")
    (tSeq (sFld K (tVar 0) (tLst tNil) "kits")
    (tSeq (sFld K (tVar 0) (tLst tNil) "hirings")
    (tSeq (sFld K (tVar 0) (tC (.int 0)) "paid")
    (tSeq (sFld K (tVar 0) (tC (.int 0)) "replaced")
    (tRet (tLst (tCons (tC (.int 0)) tNil))))))))))))))
abbrev N_put_loose : List Str := ["lib", "numbers", "lists", "work", "section", "many", "loose"]
/-- put_loose (level 1); slots: 0 lib, 1 numbers, 2 lists, 3 work, 4 section, 5 many, 6 loose -/
def t_put_loose (K : PySem.W.Frag) : TS := (tSeq (tAsg (tVar 1) (gLst K 3 (gCons (gName 3) (gCons (gName 4) (gCons (gName 5) gNil)))))
    (tSeq (tIfS (tTest (tOp rGeI (tVar 3) (tCB (Evl.rLenS K) (tCons (tFld K (tVar 0) "works") tNil)))) (tRet (tLst (tCons (tC (.int (-2))) tNil))) tNext)
    (tSeq (tIfS (tOr (tTest (tOp rGeI (tVar 4) (tC (.int (5))))) (tNot (tTest (tChain rLeI rLeI (tC (.int 1)) (tVar 5) (tC (.int (20))))))) (tRet (tLst (tCons (tC (.int (-22))) tNil))) tNext)
    (tSeq (tAsg (tFld K (tOp (rIxL K) (tFld K (tVar 0) "works") (tVar 3)) "loose") (gName 6))
    (tSeq (tIfS (tTest (tOp rGtI (tOp rAddI (tOp (rIxL K) (tVar 6) (tVar 4)) (tVar 5)) (tC (.int (60))))) (tRet (tLst (tCons (tC (.int (-28))) tNil))) tNext)
    (tSeq (tAugS (tVar 6) (tVar 4) (tVar 5) (rIxL K) (ipI fun i j => i + j) rSetL)
    (tRet (tLst (tCons (tOp (rIxL K) (tVar 6) (tVar 4)) tNil)))))))))
abbrev N_are_winds : List Str := ["work", "winds", "k"]
/-- are_winds (level 1); slots: 0 work, 1 winds, 2 k -/
def t_are_winds (K : PySem.W.Frag) : TS := (tSeq (tFor (iRng1 (tCons (tCB (Evl.rLenS K) (tCons (tVar 1) tNil)) tNil)) (gName 2) (tIfS (tOr (tTest (tOp rGeI (tOp (rIxL K) (tVar 1) (tVar 2)) (tFld K (tVar 0) "winds"))) (tAnd (tTest (tOp rGtI (tVar 2) (tC (.int 0)))) (tTest (tOp rGeI (tOp (rIxL K) (tVar 1) (tOp rSubI (tVar 2) (tC (.int 1)))) (tOp (rIxL K) (tVar 1) (tVar 2)))))) (tRet (tC (.bl false))) tNext))
    (tRet (tC (.bl true))))
abbrev N_lose_strings : List Str := ["lib", "hiring", "strings", "loose", "gone", "i", "first"]
/-- lose_strings (level 1); slots: 0 lib, 1 hiring, 2 strings, 3 loose, 4 gone, 5 i, 6 first -/
def t_lose_strings (K : PySem.W.Frag) : TS := (tSeq (tAsg (tFld K (tOp (rIxL K) (tFld K (tVar 0) "works") (tFld K (tVar 1) "work")) "loose") (gName 3))
    (tSeq (tAsg (tFld K (tOp (rIxL K) (tFld K (tVar 0) "kits") (tFld K (tVar 1) "kit")) "gone") (gName 4))
    (tFor (iRng1 (tCons (tC (.int (5))) tNil)) (gName 5) (tSeq (tAsg (tCB rMin2 (tCons (tOp (rIxL K) (tVar 2) (tVar 5)) (tCons (tOp (rIxL K) (tFld K (tVar 1) "put") (tVar 5)) tNil))) (gName 6))
    (tSeq (tAugS (tVar 3) (tVar 5) (tVar 6) (rIxL K) (ipI fun i j => i - j) rSetL)
    (tAugS (tVar 4) (tVar 5) (tOp rSubI (tOp (rIxL K) (tVar 2) (tVar 5)) (tVar 6)) (rIxL K) (ipI fun i j => i + j) rSetL))))))
abbrev N_go_on : List Str := ["lib", "numbers", "lists"]
/-- go_on (level 1); slots: 0 lib, 1 numbers, 2 lists -/
def t_go_on (K : PySem.W.Frag) : TS := (tSeq (tIfS (tNot (tTest (tChain rLeI rLeI (tC (.int 1)) (tOp (rIxL K) (tVar 1) (tC (.int 0))) (tC (.int (60)))))) (tRet (tLst (tCons (tC (.int (-22))) tNil))) tNext)
    (tSeq (sFldAug K (tVar 0) (tOp (rIxL K) (tVar 1) (tC (.int 0))) rAdd "today")
    (tRet (tLst (tCons (tFld K (tVar 0) "today") tNil)))))
abbrev N_lost : List Str := ["lib", "numbers", "lists", "kit"]
/-- lost (level 1); slots: 0 lib, 1 numbers, 2 lists, 3 kit -/
def t_lost (K : PySem.W.Frag) : TS := (tSeq (tIfS (tTest (tOp rGeI (tOp (rIxL K) (tVar 1) (tC (.int 0))) (tCB (Evl.rLenS K) (tCons (tFld K (tVar 0) "kits") tNil)))) (tRet (tLst (tCons (tC (.int (-2))) tNil))) tNext)
    (tSeq (tAsg (tOp (rIxL K) (tFld K (tVar 0) "kits") (tOp (rIxL K) (tVar 1) (tC (.int 0)))) (gName 3))
    (tRet (tOp rCat (tOp rCat (tLst (tCons (tCB (Evl.rLenS K) (tCons (tFld K (tVar 3) "missing") tNil)) tNil)) (tFld K (tVar 3) "missing")) (tFld K (tVar 3) "gone")))))
abbrev N_torn : List Str := ["lib", "numbers", "lists", "at", "kit", "some"]
/-- torn (level 1); slots: 0 lib, 1 numbers, 2 lists, 3 at, 4 kit, 5 some -/
def t_torn (K : PySem.W.Frag) : TS := (tSeq (tAsg (tLc (iEnum K (tCons (tFld K (tVar 0) "kits") tNil)) (gTup K 2 (gCons (gName 3) (gCons (gName 4) gNil))) (tTest (tOp (rNeD K) (tFld K (tVar 4) "missing") (tLst tNil))) (tVar 3) [3, 4]) (gName 5))
    (tRet (tOp rCat (tLst (tCons (tCB (Evl.rLenS K) (tCons (tVar 5) tNil)) tNil)) (tVar 5))))
abbrev N_look : List Str := ["lib", "numbers", "lists", "hiring", "found"]
/-- look (level 1); slots: 0 lib, 1 numbers, 2 lists, 3 hiring, 4 found -/
def t_look (K : PySem.W.Frag) : TS := (tSeq (tIfS (tTest (tOp rGeI (tOp (rIxL K) (tVar 1) (tC (.int 0))) (tCB (Evl.rLenS K) (tCons (tFld K (tVar 0) "hirings") tNil)))) (tRet (tLst (tCons (tC (.int (-2))) tNil))) tNext)
    (tSeq (tAsg (tOp (rIxL K) (tFld K (tVar 0) "hirings") (tOp (rIxL K) (tVar 1) (tC (.int 0)))) (gName 3))
    (tSeq (tAsg (tLst (tCons (tFld K (tVar 3) "how") (tCons (tFld K (tVar 3) "work") (tCons (tFld K (tVar 3) "first") (tCons (tFld K (tVar 3) "spell") (tCons (tFld K (tVar 3) "concerts") (tCons (tFld K (tVar 3) "clean") (tCons (tFld K (tVar 3) "kit") tNil)))))))) (gName 4))
    (tRet (tOp rCat (tOp rCat (tVar 4) (tFld K (tVar 3) "desks")) (tFld K (tVar 3) "put"))))))
abbrev N_marks : List Str := ["lib", "numbers", "lists"]
/-- marks (level 1); slots: 0 lib, 1 numbers, 2 lists -/
def t_marks (K : PySem.W.Frag) : TS := (tRet (tIf (tTest (tOp rLtI (tOp (rIxL K) (tVar 1) (tC (.int 0))) (tCB (Evl.rLenS K) (tCons (tFld K (tVar 0) "kits") tNil)))) (tLst (tCons (tFld K (tOp (rIxL K) (tFld K (tVar 0) "kits") (tOp (rIxL K) (tVar 1) (tC (.int 0)))) "marked") tNil)) (tLst (tCons (tC (.int (-2))) tNil))))
abbrev N_sums : List Str := ["lib", "numbers", "lists", "hiring", "out", "home"]
/-- sums (level 1); slots: 0 lib, 1 numbers, 2 lists, 3 hiring, 4 out, 5 home -/
def t_sums (K : PySem.W.Frag) : TS := (tSeq (tAsg (tCB (Evl.rLenS K) (tCons (tLc (iList K (tFld K (tVar 0) "hirings")) (gName 3) (tTest (tOp rEq (tFld K (tVar 3) "how") (tC (.int (1))))) (tVar 3) [3]) tNil)) (gName 4))
    (tSeq (tAsg (tCB (Evl.rLenS K) (tCons (tLc (iList K (tFld K (tVar 0) "hirings")) (gName 3) (tTest (tOp rEq (tFld K (tVar 3) "how") (tC (.int (2))))) (tVar 3) [3]) tNil)) (gName 5))
    (tRet (tLst (tCons (tC (.int 0)) (tCons (tFld K (tVar 0) "paid") (tCons (tFld K (tVar 0) "replaced") (tCons (tVar 4) (tCons (tVar 5) tNil)))))))))
abbrev N_state : List Str := ["lib", "numbers", "lists"]
/-- state (level 1); slots: 0 lib, 1 numbers, 2 lists -/
def t_state (K : PySem.W.Frag) : TS := (tRet (tLst (tCons (tC (.int 0)) (tCons (tFld K (tVar 0) "today") (tCons (tCB (Evl.rLenS K) (tCons (tFld K (tVar 0) "works") tNil)) (tCons (tCB (Evl.rLenS K) (tCons (tFld K (tVar 0) "kits") tNil)) (tCons (tCB (Evl.rLenS K) (tCons (tFld K (tVar 0) "hirings") tNil)) tNil)))))))
abbrev N_rows_at : List Str := ["calls", "at", "many", "found", "turn", "begins"]
/-- rows_at (level 1); slots: 0 calls, 1 at, 2 many, 3 found, 4 turn, 5 begins -/
def t_rows_at (K : PySem.W.Frag) : TS := (tSeq (tAsg (tLst tNil) (gName 3))
    (tSeq (tFor (iRng1 (tCons (tVar 2) tNil)) (gName 4) (tSeq (tAsg (tOp rAddI (tVar 1) (tC (.int 1))) (gName 5))
    (tSeq (tAsg (tOp rAddI (tVar 5) (tOp (rIxL K) (tVar 0) (tVar 1))) (gName 1))
    (tDrop (tBM K "list" rAppend (tVar 3) (tCons (tSl (rSlL K) (tVar 0) (tPart (tVar 5)) (tPart (tVar 1))) tNil))))))
    (tRet (tTup (tCons (tVar 3) (tCons (tVar 1) tNil))))))
abbrev N_over_day : List Str := ["lib", "hiring", "last"]
/-- over_day (level 2); slots: 0 lib, 1 hiring, 2 last -/
def t_over_day (K : PySem.W.Frag) : TS := (tSeq (tAsg (tCall (sp_last_day K) [] E0 (tCons (tVar 1) tNil)) (gName 2))
    (tSeq (tIfS (tAnd (tTest (tOp rEq (tFld K (tVar 1) "how") (tC (.int (1))))) (tTest (tOp rGtI (tFld K (tVar 0) "today") (tVar 2)))) (tAsg (tFld K (tVar 0) "today") (gName 2)) tNext)
    (tRet (tOp rAddI (tOp rAddI (tVar 2) (tFld K (tVar 0) "turn")) (tC (.int 1))))))
abbrev N_late_by : List Str := ["lib", "hiring"]
/-- late_by (level 2); slots: 0 lib, 1 hiring -/
def t_late_by (K : PySem.W.Frag) : TS := (tRet (tCB Evl.rMax2 (tCons (tC (.int 0)) (tCons (tOp rSubI (tFld K (tVar 0) "today") (tCall (sp_last_day K) [] E0 (tCons (tVar 1) tNil))) tNil))))
abbrev N_others_of : List Str := ["lib", "work", "but", "found", "number", "hiring"]
/-- others_of (level 2); slots: 0 lib, 1 work, 2 but, 3 found, 4 number, 5 hiring -/
def t_others_of (K : PySem.W.Frag) : TS := (tSeq (tAsg (tLst tNil) (gName 3))
    (tSeq (tFor (iEnum K (tCons (tFld K (tVar 0) "hirings") tNil)) (gTup K 2 (gCons (gName 4) (gCons (gName 5) gNil))) (tIfS (tAnd (tTest (tOp rNe (tVar 4) (tVar 2))) (tAnd (tTest (tOp rEq (tFld K (tVar 5) "work") (tVar 1))) (tB (tCall (sp_is_on K) [] E0 (tCons (tVar 5) tNil))))) (tDrop (tBM K "list" rAppend (tVar 3) (tCons (tVar 5) tNil))) tNext))
    (tRet (tVar 3))))
abbrev N_lack_of : List Str := ["kit", "desks", "there", "i"]
/-- lack_of (level 2); slots: 0 kit, 1 desks, 2 there, 3 i -/
def t_lack_of (K : PySem.W.Frag) : TS := (tSeq (tAsg (tCall (sp_there_of K) [] E0 (tCons (tVar 0) tNil)) (gName 2))
    (tRet (tLc (iRng1 (tCons (tC (.int (5))) tNil)) (gName 3) tYes (tCB Evl.rMax2 (tCons (tC (.int 0)) (tCons (tOp rSubI (tOp (rIxL K) (tVar 1) (tVar 3)) (tOp (rIxL K) (tVar 2) (tVar 3))) tNil))) [3])))
abbrev N_extra_of : List Str := ["kit", "desks", "there", "i"]
/-- extra_of (level 2); slots: 0 kit, 1 desks, 2 there, 3 i -/
def t_extra_of (K : PySem.W.Frag) : TS := (tSeq (tAsg (tCall (sp_there_of K) [] E0 (tCons (tVar 0) tNil)) (gName 2))
    (tRet (tCB (rSum K) (tCons (tLc (iRng1 (tCons (tC (.int (5))) tNil)) (gName 3) tYes (tCB Evl.rMax2 (tCons (tC (.int 0)) (tCons (tOp rSubI (tOp (rIxL K) (tVar 2) (tVar 3)) (tOp (rIxL K) (tVar 1) (tVar 3))) tNil))) [3]) tNil))))
abbrev N_sent_of : List Str := ["lib", "hiring", "there", "i"]
/-- sent_of (level 2); slots: 0 lib, 1 hiring, 2 there, 3 i -/
def t_sent_of (K : PySem.W.Frag) : TS := (tSeq (tAsg (tCall (sp_there_of K) [] E0 (tCons (tOp (rIxL K) (tFld K (tVar 0) "kits") (tFld K (tVar 1) "kit")) tNil)) (gName 2))
    (tRet (tLc (iRng1 (tCons (tC (.int (5))) tNil)) (gName 3) tYes (tOp rAddI (tOp (rIxL K) (tVar 2) (tVar 3)) (tOp (rIxL K) (tFld K (tVar 1) "put") (tVar 3))) [3])))
abbrev N_replace : List Str := ["lib", "numbers", "lists", "at", "kit", "wanting"]
/-- replace (level 2); slots: 0 lib, 1 numbers, 2 lists, 3 at, 4 kit, 5 wanting -/
def t_replace (K : PySem.W.Frag) : TS := (tSeq (tAsg (tOp (rIxL K) (tVar 1) (tC (.int 0))) (gName 3))
    (tSeq (tIfS (tTest (tOp rGeI (tVar 3) (tCB (Evl.rLenS K) (tCons (tFld K (tVar 0) "kits") tNil)))) (tRet (tLst (tCons (tC (.int (-2))) tNil))) tNext)
    (tSeq (tIfS (tB (tCall (sp_is_out K) [] E0 (tCons (tVar 0) (tCons (tVar 3) tNil)))) (tRet (tLst (tCons (tC (.int (-17))) tNil))) tNext)
    (tSeq (tAsg (tOp (rIxL K) (tFld K (tVar 0) "kits") (tVar 3)) (gName 4))
    (tSeq (tAsg (tOp rAddI (tCB (Evl.rLenS K) (tCons (tFld K (tVar 4) "missing") tNil)) (tCB (rSum K) (tCons (tFld K (tVar 4) "gone") tNil))) (gName 5))
    (tSeq (tIfS (tTest (tOp rEq (tVar 5) (tC (.int 0)))) (tRet (tLst (tCons (tC (.int (-6))) tNil))) tNext)
    (tSeq (sFldAug K (tVar 0) (tOp rMulI (tVar 5) (tFld K (tOp (rIxL K) (tFld K (tVar 0) "works") (tFld K (tVar 4) "work")) "price")) rAdd "replaced")
    (tSeq (sFld K (tVar 4) (tLst tNil) "missing")
    (tSeq (sFld K (tVar 4) (tOp rRep (tLst (tCons (tC (.int 0)) tNil)) (tC (.int (5)))) "gone")
    (tRet (tLst (tCons (tVar 5) tNil))))))))))))
abbrev N_rub : List Str := ["lib", "numbers", "lists", "at", "kit", "by"]
/-- rub (level 2); slots: 0 lib, 1 numbers, 2 lists, 3 at, 4 kit, 5 by -/
def t_rub (K : PySem.W.Frag) : TS := (tSeq (tAsg (tOp (rIxL K) (tVar 1) (tC (.int 0))) (gName 3))
    (tSeq (tIfS (tTest (tOp rGeI (tVar 3) (tCB (Evl.rLenS K) (tCons (tFld K (tVar 0) "kits") tNil)))) (tRet (tLst (tCons (tC (.int (-2))) tNil))) tNext)
    (tSeq (tIfS (tB (tCall (sp_is_out K) [] E0 (tCons (tVar 0) (tCons (tVar 3) tNil)))) (tRet (tLst (tCons (tC (.int (-17))) tNil))) tNext)
    (tSeq (tAsg (tOp (rIxL K) (tFld K (tVar 0) "kits") (tVar 3)) (gName 4))
    (tSeq (tIfS (tTest (tOp rEq (tFld K (tVar 4) "marked") (tC (.int 0)))) (tRet (tLst (tCons (tC (.int (-6))) tNil))) tNext)
    (tSeq (tAsg (tOp rSubI (tFld K (tVar 4) "marked") (tC (.int 1))) (gName 5))
    (tSeq (sFld K (tVar 4) (tC (.int 0)) "marked")
    (tRet (tLst (tCons (tVar 5) tNil))))))))))
abbrev N_why_not_asked : List Str := ["lib", "numbers", "desks", "work", "first", "spell"]
/-- why_not_asked (level 2); slots: 0 lib, 1 numbers, 2 desks, 3 work, 4 first, 5 spell -/
def t_why_not_asked (K : PySem.W.Frag) : TS := (tSeq (tAsg (tVar 1) (gLst K 3 (gCons (gName 3) (gCons (gName 4) (gCons (gName 5) gNil)))))
    (tSeq (tIfS (tTest (tOp rGeI (tVar 3) (tCB (Evl.rLenS K) (tCons (tFld K (tVar 0) "works") tNil)))) (tRet (tC (.int (-2)))) tNext)
    (tRet (tIf (tAnd (tB (tCall (sp_are_days_right K) [] E0 (tCons (tVar 0) (tCons (tVar 4) (tCons (tVar 5) tNil))))) (tB (tCall (sp_are_parts K) [] E0 (tCons (tVar 2) tNil)))) (tC (.int 0)) (tC (.int (-22)))))))
abbrev N_plan : List Str := ["lib", "numbers", "lists", "at", "hiring", "some", "first"]
/-- plan (level 2); slots: 0 lib, 1 numbers, 2 lists, 3 at, 4 hiring, 5 some, 6 first -/
def t_plan (K : PySem.W.Frag) : TS := (tSeq (tIfS (tTest (tOp rGeI (tOp (rIxL K) (tVar 1) (tC (.int 0))) (tCB (Evl.rLenS K) (tCons (tFld K (tVar 0) "kits") tNil)))) (tRet (tLst (tCons (tC (.int (-2))) tNil))) tNext)
    (tSeq (tAsg (tLc (iEnum K (tCons (tFld K (tVar 0) "hirings") tNil)) (gTup K 2 (gCons (gName 3) (gCons (gName 4) gNil))) (tAnd (tTest (tOp rEq (tFld K (tVar 4) "kit") (tOp (rIxL K) (tVar 1) (tC (.int 0))))) (tB (tCall (sp_is_on K) [] E0 (tCons (tVar 4) tNil)))) (tTup (tCons (tFld K (tVar 4) "first") (tCons (tVar 3) tNil))) [3, 4]) (gName 5))
    (tRet (tOp rCat (tLst (tCons (tCB (Evl.rLenS K) (tCons (tVar 5) tNil)) tNil)) (tLc (iList K (tCB (rSortedPO K) (tCons (tVar 5) tNil))) (gTup K 2 (gCons (gName 6) (gCons (gName 3) gNil))) tYes (tVar 3) [6, 3])))))
abbrev N_due : List Str := ["lib", "numbers", "lists", "at", "hiring", "some"]
/-- due (level 2); slots: 0 lib, 1 numbers, 2 lists, 3 at, 4 hiring, 5 some -/
def t_due (K : PySem.W.Frag) : TS := (tSeq (tAsg (tLc (iEnum K (tCons (tFld K (tVar 0) "hirings") tNil)) (gTup K 2 (gCons (gName 3) (gCons (gName 4) gNil))) (tAnd (tTest (tOp rEq (tFld K (tVar 4) "how") (tC (.int (1))))) (tTest (tOp rLeI (tCall (sp_last_day K) [] E0 (tCons (tVar 4) tNil)) (tFld K (tVar 0) "today")))) (tVar 3) [3, 4]) (gName 5))
    (tRet (tOp rCat (tLst (tCons (tCB (Evl.rLenS K) (tCons (tVar 5) tNil)) tNil)) (tVar 5))))
abbrev N_has : List Str := ["lib", "numbers", "lists", "kit"]
/-- has (level 2); slots: 0 lib, 1 numbers, 2 lists, 3 kit -/
def t_has (K : PySem.W.Frag) : TS := (tSeq (tIfS (tTest (tOp rGeI (tOp (rIxL K) (tVar 1) (tC (.int 0))) (tCB (Evl.rLenS K) (tCons (tFld K (tVar 0) "kits") tNil)))) (tRet (tLst (tCons (tC (.int (-2))) tNil))) tNext)
    (tSeq (tAsg (tOp (rIxL K) (tFld K (tVar 0) "kits") (tOp (rIxL K) (tVar 1) (tC (.int 0)))) (gName 3))
    (tRet (tOp rCat (tLst (tCons (tOp rSubI (tFld K (tOp (rIxL K) (tFld K (tVar 0) "works") (tFld K (tVar 3) "work")) "winds") (tCB (Evl.rLenS K) (tCons (tFld K (tVar 3) "missing") tNil))) tNil)) (tCall (sp_there_of K) [] E0 (tCons (tVar 3) tNil))))))
abbrev N_shelf : List Str := ["lib", "numbers", "lists", "at", "some"]
/-- shelf (level 2); slots: 0 lib, 1 numbers, 2 lists, 3 at, 4 some -/
def t_shelf (K : PySem.W.Frag) : TS := (tSeq (tAsg (tLc (iRng1 (tCons (tCB (Evl.rLenS K) (tCons (tFld K (tVar 0) "kits") tNil)) tNil)) (gName 3) (tNot (tB (tCall (sp_is_out K) [] E0 (tCons (tVar 0) (tCons (tVar 3) tNil))))) (tVar 3) [3]) (gName 4))
    (tRet (tOp rCat (tLst (tCons (tCB (Evl.rLenS K) (tCons (tVar 4) tNil)) tNil)) (tVar 4))))
abbrev N_has_on : List Str := ["lib", "hiring", "day"]
/-- has_on (level 3); slots: 0 lib, 1 hiring, 2 day -/
def t_has_on (K : PySem.W.Frag) : TS := (tRet (tAndV (tCall (sp_is_on K) [] E0 (tCons (tVar 1) tNil)) (tChain rLeI rLtI (tFld K (tVar 1) "first") (tVar 2) (tCall (sp_over_day K) [] E0 (tCons (tVar 0) (tCons (tVar 1) tNil))))))
abbrev N_is_kit_free : List Str := ["lib", "at", "first", "end", "but", "number", "hiring"]
/-- is_kit_free (level 3); slots: 0 lib, 1 at, 2 first, 3 end, 4 but, 5 number, 6 hiring -/
def t_is_kit_free (K : PySem.W.Frag) : TS := (tSeq (tFor (iEnum K (tCons (tFld K (tVar 0) "hirings") tNil)) (gTup K 2 (gCons (gName 5) (gCons (gName 6) gNil))) (tIfS (tAnd (tTest (tOp rNe (tVar 5) (tVar 4))) (tAnd (tTest (tOp rEq (tFld K (tVar 6) "kit") (tVar 1))) (tB (tCall (sp_is_on K) [] E0 (tCons (tVar 6) tNil))))) (tIfS (tAnd (tTest (tOp rLtI (tFld K (tVar 6) "first") (tVar 3))) (tTest (tOp rLtI (tVar 2) (tCall (sp_over_day K) [] E0 (tCons (tVar 0) (tCons (tVar 6) tNil)))))) (tRet (tC (.bl false))) tNext) tNext))
    (tRet (tC (.bl true))))
abbrev N_rank_of : List Str := ["lib", "at", "desks", "kit"]
/-- rank_of (level 3); slots: 0 lib, 1 at, 2 desks, 3 kit -/
def t_rank_of (K : PySem.W.Frag) : TS := (tSeq (tAsg (tOp (rIxL K) (tFld K (tVar 0) "kits") (tVar 1)) (gName 3))
    (tRet (tTup (tCons (tCB (rSum K) (tCons (tCall (sp_lack_of K) [] E0 (tCons (tVar 3) (tCons (tVar 2) tNil))) tNil)) (tCons (tCall (sp_extra_of K) [] E0 (tCons (tVar 3) (tCons (tVar 2) tNil))) (tCons (tVar 1) tNil))))))
abbrev N_put_work : List Str := ["lib", "numbers", "lists", "winds", "fee", "more", "price"]
/-- put_work (level 3); slots: 0 lib, 1 numbers, 2 lists, 3 winds, 4 fee, 5 more, 6 price -/
def t_put_work (K : PySem.W.Frag) : TS := (tSeq (tAsg (tVar 1) (gLst K 4 (gCons (gName 3) (gCons (gName 4) (gCons (gName 5) (gCons (gName 6) gNil))))))
    (tSeq (tIfS (tOr (tTest (tOp rGtI (tVar 3) (tC (.int (30))))) (tOr (tTest (tOp rGtI (tVar 4) (tC (.int (10000))))) (tOr (tTest (tOp rGtI (tVar 5) (tC (.int (10000))))) (tTest (tOp rGtI (tVar 6) (tC (.int (1000)))))))) (tRet (tLst (tCons (tC (.int (-22))) tNil))) tNext)
    (tSeq (tIfS (tTest (tOp rEq (tCB (Evl.rLenS K) (tCons (tFld K (tVar 0) "works") tNil)) (tC (.int (8))))) (tRet (tLst (tCons (tC (.int (-28))) tNil))) tNext)
    (tSeq (tDrop (tBM K "list" rAppend (tFld K (tVar 0) "works") (tCons (tMake (He.ga K "Work") (sp_init_Work K) [] E0 (tCons (tVar 3) (tCons (tVar 4) (tCons (tVar 5) (tCons (tVar 6) tNil))))) tNil)))
    (tRet (tLst (tCons (tOp rSubI (tCB (Evl.rLenS K) (tCons (tFld K (tVar 0) "works") tNil)) (tC (.int 1))) tNil)))))))
abbrev N_put_kit : List Str := ["lib", "numbers", "lists", "work"]
/-- put_kit (level 3); slots: 0 lib, 1 numbers, 2 lists, 3 work -/
def t_put_kit (K : PySem.W.Frag) : TS := (tSeq (tAsg (tOp (rIxL K) (tVar 1) (tC (.int 0))) (gName 3))
    (tSeq (tIfS (tTest (tOp rGeI (tVar 3) (tCB (Evl.rLenS K) (tCons (tFld K (tVar 0) "works") tNil)))) (tRet (tLst (tCons (tC (.int (-2))) tNil))) tNext)
    (tSeq (tIfS (tNot (tB (tCall (sp_are_parts K) [] E0 (tCons (tOp (rIxL K) (tVar 2) (tC (.int 0))) tNil)))) (tRet (tLst (tCons (tC (.int (-22))) tNil))) tNext)
    (tSeq (tIfS (tTest (tOp rEq (tCB (Evl.rLenS K) (tCons (tFld K (tVar 0) "kits") tNil)) (tC (.int (12))))) (tRet (tLst (tCons (tC (.int (-28))) tNil))) tNext)
    (tSeq (tDrop (tBM K "list" rAppend (tFld K (tVar 0) "kits") (tCons (tMake (He.ga K "Kit") (sp_init_Kit K) [] E0 (tCons (tVar 3) (tCons (tCB (Evl.rListS K) (tCons (tOp (rIxL K) (tVar 2) (tC (.int 0))) tNil)) tNil))) tNil)))
    (tRet (tLst (tCons (tOp rSubI (tCB (Evl.rLenS K) (tCons (tFld K (tVar 0) "kits") tNil)) (tC (.int 1))) tNil))))))))
abbrev N_are_lost : List Str := ["lib", "hiring", "strings", "sent", "i"]
/-- are_lost (level 3); slots: 0 lib, 1 hiring, 2 strings, 3 sent, 4 i -/
def t_are_lost (K : PySem.W.Frag) : TS := (tSeq (tIfS (tTest (tOp rNe (tCB (Evl.rLenS K) (tCons (tVar 2) tNil)) (tC (.int (5))))) (tRet (tC (.bl false))) tNext)
    (tSeq (tAsg (tCall (sp_sent_of K) [] E0 (tCons (tVar 0) (tCons (tVar 1) tNil))) (gName 3))
    (tRet (tCB (rAll K) (tCons (tLc (iRng1 (tCons (tC (.int (5))) tNil)) (gName 4) tYes (tOp rLeI (tOp (rIxL K) (tVar 2) (tVar 4)) (tOp (rIxL K) (tVar 3) (tVar 4))) [4]) tNil)))))
abbrev N_bill_of : List Str := ["lib", "hiring", "lost", "work"]
/-- bill_of (level 3); slots: 0 lib, 1 hiring, 2 lost, 3 work -/
def t_bill_of (K : PySem.W.Frag) : TS := (tSeq (tAsg (tOp (rIxL K) (tFld K (tVar 0) "works") (tFld K (tVar 1) "work")) (gName 3))
    (tRet (tOp rAddI (tOp rAddI (tOp rAddI (tFld K (tVar 3) "fee") (tOp rMulI (tOp rSubI (tFld K (tVar 1) "concerts") (tC (.int 1))) (tFld K (tVar 3) "more"))) (tOp rMulI (tFld K (tVar 0) "fine") (tCall (sp_late_by K) [] E0 (tCons (tVar 0) (tCons (tVar 1) tNil))))) (tOp rMulI (tFld K (tVar 3) "price") (tVar 2)))))
abbrev N_lacks : List Str := ["lib", "numbers", "lists", "lack"]
/-- lacks (level 3); slots: 0 lib, 1 numbers, 2 lists, 3 lack -/
def t_lacks (K : PySem.W.Frag) : TS := (tSeq (tIfS (tTest (tOp rGeI (tOp (rIxL K) (tVar 1) (tC (.int 0))) (tCB (Evl.rLenS K) (tCons (tFld K (tVar 0) "kits") tNil)))) (tRet (tLst (tCons (tC (.int (-2))) tNil))) tNext)
    (tSeq (tIfS (tNot (tB (tCall (sp_are_parts K) [] E0 (tCons (tOp (rIxL K) (tVar 2) (tC (.int 0))) tNil)))) (tRet (tLst (tCons (tC (.int (-22))) tNil))) tNext)
    (tSeq (tAsg (tCall (sp_lack_of K) [] E0 (tCons (tOp (rIxL K) (tFld K (tVar 0) "kits") (tOp (rIxL K) (tVar 1) (tC (.int 0)))) (tCons (tOp (rIxL K) (tVar 2) (tC (.int 0))) tNil))) (gName 3))
    (tRet (tOp rCat (tLst (tCons (tCB (rSum K) (tCons (tVar 3) tNil)) tNil)) (tVar 3))))))
abbrev N_late : List Str := ["lib", "numbers", "lists", "hiring", "over", "others", "at", "other", "waiting", "first"]
/-- late (level 3); slots: 0 lib, 1 numbers, 2 lists, 3 hiring, 4 over, 5 others, 6 at, 7 other, 8 waiting, 9 first -/
def t_late (K : PySem.W.Frag) : TS := (tSeq (tIfS (tTest (tOp rGeI (tOp (rIxL K) (tVar 1) (tC (.int 0))) (tCB (Evl.rLenS K) (tCons (tFld K (tVar 0) "hirings") tNil)))) (tRet (tLst (tCons (tC (.int (-2))) tNil))) tNext)
    (tSeq (tAsg (tOp (rIxL K) (tFld K (tVar 0) "hirings") (tOp (rIxL K) (tVar 1) (tC (.int 0)))) (gName 3))
    (tSeq (tIfS (tTest (tOp rNe (tFld K (tVar 3) "how") (tC (.int (1))))) (tRet (tLst (tCons (tC (.int (-16))) tNil))) tNext)
    (tSeq (tAsg (tCall (sp_over_day K) [] E0 (tCons (tVar 0) (tCons (tVar 3) tNil))) (gName 4))
    (tSeq (tAsg (tListEnum K (tFld K (tVar 0) "hirings")) (gName 5))
    (tSeq (tAsg (tLc (iList K (tVar 5)) (gTup K 2 (gCons (gName 6) (gCons (gName 7) gNil))) (tAnd (tTest (tOp rEq (tFld K (tVar 7) "how") (tC (.int (0))))) (tTest (tOp rEq (tFld K (tVar 7) "kit") (tFld K (tVar 3) "kit")))) (tTup (tCons (tVar 6) (tCons (tFld K (tVar 7) "first") tNil))) [6, 7]) (gName 8))
    (tRet (tOp rCat (tLst (tCons (tCall (sp_late_by K) [] E0 (tCons (tVar 0) (tCons (tVar 3) tNil))) tNil)) (tLc (iList K (tVar 8)) (gTup K 2 (gCons (gName 6) (gCons (gName 9) gNil))) (tTest (tOp rLtI (tVar 9) (tVar 4))) (tVar 6) [6, 9])))))))))
abbrev N_free_on : List Str := ["lib", "work", "day", "but", "found", "hiring", "i"]
/-- free_on (level 4); slots: 0 lib, 1 work, 2 day, 3 but, 4 found, 5 hiring, 6 i -/
def t_free_on (K : PySem.W.Frag) : TS := (tSeq (tAsg (tCB (Evl.rListS K) (tCons (tFld K (tOp (rIxL K) (tFld K (tVar 0) "works") (tVar 1)) "loose") tNil)) (gName 4))
    (tSeq (tFor (iList K (tCall (sp_others_of K) [] E0 (tCons (tVar 0) (tCons (tVar 1) (tCons (tVar 3) tNil))))) (gName 5) (tIfS (tB (tCall (sp_has_on K) [] E0 (tCons (tVar 0) (tCons (tVar 5) (tCons (tVar 2) tNil))))) (tFor (iRng1 (tCons (tC (.int (5))) tNil)) (gName 6) (tAugS (tVar 4) (tVar 6) (tOp (rIxL K) (tFld K (tVar 5) "put") (tVar 6)) (rIxL K) (ipI fun i j => i - j) rSetL)) tNext))
    (tRet (tVar 4))))
abbrev N_does : List Str := ["lib", "at", "hiring", "free", "but", "kit"]
/-- does (level 4); slots: 0 lib, 1 at, 2 hiring, 3 free, 4 but, 5 kit -/
def t_does (K : PySem.W.Frag) : TS := (tSeq (tAsg (tOp (rIxL K) (tFld K (tVar 0) "kits") (tVar 1)) (gName 5))
    (tSeq (tIfS (tOr (tTest (tOp rNe (tFld K (tVar 5) "work") (tFld K (tVar 2) "work"))) (tTest (tOp (rNeD K) (tFld K (tVar 5) "missing") (tLst tNil)))) (tRet (tC (.bl false))) tNext)
    (tSeq (tIfS (tNot (tB (tCall (sp_is_kit_free K) [] E0 (tCons (tVar 0) (tCons (tVar 1) (tCons (tFld K (tVar 2) "first") (tCons (tCall (sp_end_of K) [] E0 (tCons (tVar 0) (tCons (tFld K (tVar 2) "first") (tCons (tFld K (tVar 2) "spell") tNil)))) (tCons (tVar 4) tNil)))))))) (tRet (tC (.bl false))) tNext)
    (tRet (tCall (sp_are_enough K) [] E0 (tCons (tCall (sp_lack_of K) [] E0 (tCons (tVar 5) (tCons (tFld K (tVar 2) "desks") tNil))) (tCons (tVar 3) tNil)))))))
abbrev N_best_of : List Str := ["lib", "some", "desks", "at", "ranks"]
/-- best_of (level 4); slots: 0 lib, 1 some, 2 desks, 3 at, 4 ranks -/
def t_best_of (K : PySem.W.Frag) : TS := (tSeq (tAsg (tLc (iList K (tVar 1)) (gName 3) tYes (tCall (sp_rank_of K) [] E0 (tCons (tVar 0) (tCons (tVar 3) (tCons (tVar 2) tNil)))) [3]) (gName 4))
    (tRet (tOp (rIxT K) (tCB (rMinT K) (tCons (tVar 4) tNil)) (tC (.int 2)))))
abbrev N_back : List Str := ["lib", "numbers", "lists", "at", "winds", "strings", "hiring", "paid", "kit"]
/-- back (level 4); slots: 0 lib, 1 numbers, 2 lists, 3 at, 4 winds, 5 strings, 6 hiring, 7 paid, 8 kit -/
def t_back (K : PySem.W.Frag) : TS := (tSeq (tAsg (tOp (rIxL K) (tVar 1) (tC (.int 0))) (gName 3))
    (tSeq (tAsg (tVar 2) (gLst K 2 (gCons (gName 4) (gCons (gName 5) gNil))))
    (tSeq (tIfS (tTest (tOp rGeI (tVar 3) (tCB (Evl.rLenS K) (tCons (tFld K (tVar 0) "hirings") tNil)))) (tRet (tLst (tCons (tC (.int (-2))) tNil))) tNext)
    (tSeq (tAsg (tOp (rIxL K) (tFld K (tVar 0) "hirings") (tVar 3)) (gName 6))
    (tSeq (tIfS (tTest (tOp rNe (tFld K (tVar 6) "how") (tC (.int (1))))) (tRet (tLst (tCons (tC (.int (-16))) tNil))) tNext)
    (tSeq (tIfS (tOr (tNot (tB (tCall (sp_are_winds K) [] E0 (tCons (tOp (rIxL K) (tFld K (tVar 0) "works") (tFld K (tVar 6) "work")) (tCons (tVar 4) tNil))))) (tNot (tB (tCall (sp_are_lost K) [] E0 (tCons (tVar 0) (tCons (tVar 6) (tCons (tVar 5) tNil))))))) (tRet (tLst (tCons (tC (.int (-22))) tNil))) tNext)
    (tSeq (tAsg (tCall (sp_bill_of K) [] E0 (tCons (tVar 0) (tCons (tVar 6) (tCons (tOp rAddI (tCB (Evl.rLenS K) (tCons (tVar 4) tNil)) (tCB (rSum K) (tCons (tVar 5) tNil))) tNil)))) (gName 7))
    (tSeq (sFldAug K (tVar 0) (tVar 7) rAdd "paid")
    (tSeq (tAsg (tOp (rIxL K) (tFld K (tVar 0) "kits") (tFld K (tVar 6) "kit")) (gName 8))
    (tSeq (sFld K (tVar 8) (tCB (Evl.rListS K) (tCons (tVar 4) tNil)) "missing")
    (tSeq (tDrop (tCall (sp_lose_strings K) [] E0 (tCons (tVar 0) (tCons (tVar 6) (tCons (tVar 5) tNil)))))
    (tSeq (sFld K (tVar 8) (tOp rAddI (tVar 3) (tC (.int 1))) "marked")
    (tSeq (sFld K (tVar 6) (tC (.int (2))) "how")
    (tRet (tLst (tCons (tVar 7) (tCons (tCall (sp_late_by K) [] E0 (tCons (tVar 0) (tCons (tVar 6) tNil))) tNil)))))))))))))))))
abbrev N_having_on : List Str := ["lib", "work", "day", "hiring"]
/-- having_on (level 4); slots: 0 lib, 1 work, 2 day, 3 hiring -/
def t_having_on (K : PySem.W.Frag) : TS := (tRet (tCB (Evl.rLenS K) (tCons (tLc (iList K (tFld K (tVar 0) "hirings")) (gName 3) (tAnd (tTest (tOp rEq (tFld K (tVar 3) "work") (tVar 1))) (tB (tCall (sp_has_on K) [] E0 (tCons (tVar 0) (tCons (tVar 3) (tCons (tVar 2) tNil)))))) (tVar 3) [3]) tNil)))
abbrev N_bill : List Str := ["lib", "numbers", "lists", "hiring"]
/-- bill (level 4); slots: 0 lib, 1 numbers, 2 lists, 3 hiring -/
def t_bill (K : PySem.W.Frag) : TS := (tSeq (tIfS (tTest (tOp rGeI (tOp (rIxL K) (tVar 1) (tC (.int 0))) (tCB (Evl.rLenS K) (tCons (tFld K (tVar 0) "hirings") tNil)))) (tRet (tLst (tCons (tC (.int (-2))) tNil))) tNext)
    (tSeq (tAsg (tOp (rIxL K) (tFld K (tVar 0) "hirings") (tOp (rIxL K) (tVar 1) (tC (.int 0)))) (gName 3))
    (tRet (tIf (tB (tCall (sp_is_on K) [] E0 (tCons (tVar 3) tNil))) (tLst (tCons (tCall (sp_bill_of K) [] E0 (tCons (tVar 0) (tCons (tVar 3) (tCons (tC (.int 0)) tNil)))) tNil)) (tLst (tCons (tC (.int (-16))) tNil))))))
abbrev N_least_free : List Str := ["lib", "work", "first", "end", "but", "found", "day", "some", "i"]
/-- least_free (level 5); slots: 0 lib, 1 work, 2 first, 3 end, 4 but, 5 found, 6 day, 7 some, 8 i -/
def t_least_free (K : PySem.W.Frag) : TS := (tSeq (tAsg (tCall (sp_free_on K) [] E0 (tCons (tVar 0) (tCons (tVar 1) (tCons (tVar 2) (tCons (tVar 4) tNil))))) (gName 5))
    (tSeq (tFor (iRng2 (tCons (tOp rAddI (tVar 2) (tC (.int 1))) (tCons (tVar 3) tNil))) (gName 6) (tSeq (tAsg (tCall (sp_free_on K) [] E0 (tCons (tVar 0) (tCons (tVar 1) (tCons (tVar 6) (tCons (tVar 4) tNil))))) (gName 7))
    (tFor (iRng1 (tCons (tC (.int (5))) tNil)) (gName 8) (tAsg (tCB rMin2 (tCons (tOp (rIxL K) (tVar 5) (tVar 8)) (tCons (tOp (rIxL K) (tVar 7) (tVar 8)) tNil))) (gSub (tVar 5) (tVar 8) rSetL)))))
    (tRet (tVar 5))))
abbrev N_is_in_way : List Str := ["lib", "at", "day", "hiring", "number", "other"]
/-- is_in_way (level 5); slots: 0 lib, 1 at, 2 day, 3 hiring, 4 number, 5 other -/
def t_is_in_way (K : PySem.W.Frag) : TS := (tSeq (tAsg (tOp (rIxL K) (tFld K (tVar 0) "hirings") (tVar 1)) (gName 3))
    (tSeq (tFor (iEnum K (tCons (tFld K (tVar 0) "hirings") tNil)) (gTup K 2 (gCons (gName 4) (gCons (gName 5) gNil))) (tIfS (tAnd (tTest (tOp rNe (tVar 4) (tVar 1))) (tAnd (tTest (tOp rEq (tFld K (tVar 5) "kit") (tFld K (tVar 3) "kit"))) (tB (tCall (sp_has_on K) [] E0 (tCons (tVar 0) (tCons (tVar 5) (tCons (tVar 2) tNil))))))) (tRet (tC (.bl true))) tNext))
    (tRet (tNotV (tCall (sp_are_enough K) [] E0 (tCons (tFld K (tVar 3) "put") (tCons (tCall (sp_free_on K) [] E0 (tCons (tVar 0) (tCons (tFld K (tVar 3) "work") (tCons (tVar 2) (tCons (tVar 1) tNil))))) tNil)))))))
abbrev N_why_not_sent : List Str := ["lib", "at", "hiring", "kit", "lack", "i"]
/-- why_not_sent (level 5); slots: 0 lib, 1 at, 2 hiring, 3 kit, 4 lack, 5 i -/
def t_why_not_sent (K : PySem.W.Frag) : TS := (tSeq (tAsg (tOp (rIxL K) (tFld K (tVar 0) "hirings") (tVar 1)) (gName 2))
    (tSeq (tAsg (tOp (rIxL K) (tFld K (tVar 0) "kits") (tFld K (tVar 2) "kit")) (gName 3))
    (tSeq (tIfS (tTest (tOp rLtI (tFld K (tVar 0) "today") (tFld K (tVar 2) "first"))) (tRet (tC (.int (-13)))) tNext)
    (tSeq (tIfS (tB (tCall (sp_is_out K) [] E0 (tCons (tVar 0) (tCons (tFld K (tVar 2) "kit") tNil)))) (tRet (tC (.int (-17)))) tNext)
    (tSeq (tIfS (tTest (tOp (rNeD K) (tFld K (tVar 3) "missing") (tLst tNil))) (tRet (tC (.int (-12)))) tNext)
    (tSeq (tIfS (tAnd (tTest (tOp rEq (tFld K (tVar 2) "clean") (tC (.int 1)))) (tTest (tOp rGtI (tFld K (tVar 3) "marked") (tC (.int 0))))) (tRet (tC (.int (-19)))) tNext)
    (tSeq (tAsg (tCall (sp_lack_of K) [] E0 (tCons (tVar 3) (tCons (tFld K (tVar 2) "desks") tNil))) (gName 4))
    (tSeq (tIfS (tB (tCB (rAny K) (tCons (tLc (iRng1 (tCons (tC (.int (5))) tNil)) (gName 5) tYes (tOp rGtI (tOp (rIxL K) (tVar 4) (tVar 5)) (tOp (rIxL K) (tFld K (tVar 2) "put") (tVar 5))) [5]) tNil))) (tRet (tC (.int (-33)))) tNext)
    (tSeq (tIfS (tNot (tB (tCall (sp_are_enough K) [] E0 (tCons (tFld K (tVar 2) "put") (tCons (tCall (sp_free_on K) [] E0 (tCons (tVar 0) (tCons (tFld K (tVar 2) "work") (tCons (tFld K (tVar 0) "today") (tCons (tVar 1) tNil))))) tNil))))) (tRet (tC (.int (-33)))) tNext)
    (tRet (tC (.int 0))))))))))))
abbrev N_most : List Str := ["lib", "numbers", "lists", "work", "many", "day", "hiring", "first", "here", "kit"]
/-- most (level 5); slots: 0 lib, 1 numbers, 2 lists, 3 work, 4 many, 5 day, 6 hiring, 7 first, 8 here, 9 kit -/
def t_most (K : PySem.W.Frag) : TS := (tSeq (tAsg (tOp (rIxL K) (tVar 1) (tC (.int 0))) (gName 3))
    (tSeq (tIfS (tTest (tOp rGeI (tVar 3) (tCB (Evl.rLenS K) (tCons (tFld K (tVar 0) "works") tNil)))) (tRet (tLst (tCons (tC (.int (-2))) tNil))) tNext)
    (tSeq (tAsg (tTup (tCons (tC (.int 0)) (tCons (tC (.int 0)) tNil))) (gTup K 2 (gCons (gName 4) (gCons (gName 5) gNil))))
    (tSeq (tFor (iList K (tCB (rSorted K) (tCons (tLc (iList K (tFld K (tVar 0) "hirings")) (gName 6) (tAnd (tTest (tOp rEq (tFld K (tVar 6) "work") (tVar 3))) (tB (tCall (sp_is_on K) [] E0 (tCons (tVar 6) tNil)))) (tFld K (tVar 6) "first") [6]) tNil))) (gName 7) (tSeq (tAsg (tCall (sp_having_on K) [] E0 (tCons (tVar 0) (tCons (tVar 3) (tCons (tVar 7) tNil)))) (gName 8))
    (tIfS (tTest (tOp rGtI (tVar 8) (tVar 4))) (tPar 4 5 (tCons (tVar 8) (tCons (tVar 7) tNil))) tNext)))
    (tRet (tLst (tCons (tVar 4) (tCons (tVar 5) (tCons (tCB (Evl.rLenS K) (tCons (tLc (iList K (tFld K (tVar 0) "kits")) (gName 9) (tTest (tOp rEq (tFld K (tVar 9) "work") (tVar 3))) (tVar 9) [9]) tNil)) tNil)))))))))
abbrev N_free : List Str := ["lib", "numbers", "lists", "work", "section", "day"]
/-- free (level 5); slots: 0 lib, 1 numbers, 2 lists, 3 work, 4 section, 5 day -/
def t_free (K : PySem.W.Frag) : TS := (tSeq (tAsg (tVar 1) (gLst K 3 (gCons (gName 3) (gCons (gName 4) (gCons (gName 5) gNil)))))
    (tSeq (tIfS (tTest (tOp rGeI (tVar 3) (tCB (Evl.rLenS K) (tCons (tFld K (tVar 0) "works") tNil)))) (tRet (tLst (tCons (tC (.int (-2))) tNil))) tNext)
    (tSeq (tIfS (tOr (tTest (tOp rGeI (tVar 4) (tC (.int (5))))) (tNot (tTest (tChain rLeI rLeI (tFld K (tVar 0) "today") (tVar 5) (tC (.int (1100))))))) (tRet (tLst (tCons (tC (.int (-22))) tNil))) tNext)
    (tRet (tLst (tCons (tCB Evl.rMax2 (tCons (tC (.int 0)) (tCons (tOp (rIxL K) (tCall (sp_free_on K) [] E0 (tCons (tVar 0) (tCons (tVar 3) (tCons (tVar 5) (tCons (tC (.int (-1))) tNil))))) (tVar 4)) tNil))) (tCons (tOp (rIxL K) (tFld K (tOp (rIxL K) (tFld K (tVar 0) "works") (tVar 3)) "loose") (tVar 4)) tNil)))))))
abbrev N_free_for : List Str := ["lib", "hiring", "but"]
/-- free_for (level 6); slots: 0 lib, 1 hiring, 2 but -/
def t_free_for (K : PySem.W.Frag) : TS := (tRet (tCall (sp_least_free K) [] E0 (tCons (tVar 0) (tCons (tFld K (tVar 1) "work") (tCons (tFld K (tVar 1) "first") (tCons (tCall (sp_end_of K) [] E0 (tCons (tVar 0) (tCons (tFld K (tVar 1) "first") (tCons (tFld K (tVar 1) "spell") tNil)))) (tCons (tVar 2) tNil)))))))
abbrev N_is_any_in_way : List Str := ["lib", "at", "spell", "first", "day"]
/-- is_any_in_way (level 6); slots: 0 lib, 1 at, 2 spell, 3 first, 4 day -/
def t_is_any_in_way (K : PySem.W.Frag) : TS := (tSeq (tAsg (tFld K (tOp (rIxL K) (tFld K (tVar 0) "hirings") (tVar 1)) "first") (gName 3))
    (tRet (tCB (rAny K) (tCons (tLc (iRng2 (tCons (tVar 3) (tCons (tOp rAddI (tOp rAddI (tVar 3) (tVar 2)) (tFld K (tVar 0) "turn")) tNil))) (gName 4) tYes (tCall (sp_is_in_way K) [] E0 (tCons (tVar 0) (tCons (tVar 1) (tCons (tVar 4) tNil)))) [4]) tNil))))
abbrev N_send : List Str := ["lib", "numbers", "lists", "at", "hiring", "why"]
/-- send (level 6); slots: 0 lib, 1 numbers, 2 lists, 3 at, 4 hiring, 5 why -/
def t_send (K : PySem.W.Frag) : TS := (tSeq (tAsg (tOp (rIxL K) (tVar 1) (tC (.int 0))) (gName 3))
    (tSeq (tIfS (tTest (tOp rGeI (tVar 3) (tCB (Evl.rLenS K) (tCons (tFld K (tVar 0) "hirings") tNil)))) (tRet (tLst (tCons (tC (.int (-2))) tNil))) tNext)
    (tSeq (tAsg (tOp (rIxL K) (tFld K (tVar 0) "hirings") (tVar 3)) (gName 4))
    (tSeq (tIfS (tTest (tOp rNe (tFld K (tVar 4) "how") (tC (.int (0))))) (tRet (tLst (tCons (tC (.int (-16))) tNil))) tNext)
    (tSeq (tAsg (tCall (sp_why_not_sent K) [] E0 (tCons (tVar 0) (tCons (tVar 3) tNil))) (gName 5))
    (tSeq (tIfS (tTest (tOp rNe (tVar 5) (tC (.int 0)))) (tRet (tLst (tCons (tVar 5) tNil))) tNext)
    (tSeq (sFld K (tVar 4) (tC (.int (1))) "how")
    (tRet (tOp rCat (tLst (tCons (tC (.int 0)) tNil)) (tCall (sp_sent_of K) [] E0 (tCons (tVar 0) (tCons (tVar 4) tNil))))))))))))
abbrev N_that_do : List Str := ["lib", "hiring", "but", "free", "at"]
/-- that_do (level 7); slots: 0 lib, 1 hiring, 2 but, 3 free, 4 at -/
def t_that_do (K : PySem.W.Frag) : TS := (tSeq (tAsg (tCall (sp_free_for K) [] E0 (tCons (tVar 0) (tCons (tVar 1) (tCons (tVar 2) tNil)))) (gName 3))
    (tRet (tLc (iRng1 (tCons (tCB (Evl.rLenS K) (tCons (tFld K (tVar 0) "kits") tNil)) tNil)) (gName 4) (tB (tCall (sp_does K) [] E0 (tCons (tVar 0) (tCons (tVar 4) (tCons (tVar 1) (tCons (tVar 3) (tCons (tVar 2) tNil))))))) (tVar 4) [4])))
abbrev N_swap : List Str := ["lib", "numbers", "lists", "at", "kit", "hiring", "before"]
/-- swap (level 7); slots: 0 lib, 1 numbers, 2 lists, 3 at, 4 kit, 5 hiring, 6 before -/
def t_swap (K : PySem.W.Frag) : TS := (tSeq (tAsg (tVar 1) (gLst K 2 (gCons (gName 3) (gCons (gName 4) gNil))))
    (tSeq (tIfS (tOr (tTest (tOp rGeI (tVar 3) (tCB (Evl.rLenS K) (tCons (tFld K (tVar 0) "hirings") tNil)))) (tTest (tOp rGeI (tVar 4) (tCB (Evl.rLenS K) (tCons (tFld K (tVar 0) "kits") tNil))))) (tRet (tLst (tCons (tC (.int (-2))) tNil))) tNext)
    (tSeq (tAsg (tOp (rIxL K) (tFld K (tVar 0) "hirings") (tVar 3)) (gName 5))
    (tSeq (tIfS (tTest (tOp rNe (tFld K (tVar 5) "how") (tC (.int (0))))) (tRet (tLst (tCons (tC (.int (-16))) tNil))) tNext)
    (tSeq (tIfS (tTest (tOp rEq (tFld K (tVar 5) "kit") (tVar 4))) (tRet (tLst (tCons (tC (.int (-17))) tNil))) tNext)
    (tSeq (tIfS (tNot (tB (tCall (sp_does K) [] E0 (tCons (tVar 0) (tCons (tVar 4) (tCons (tVar 5) (tCons (tCall (sp_free_for K) [] E0 (tCons (tVar 0) (tCons (tVar 5) (tCons (tVar 3) tNil)))) (tCons (tVar 3) tNil)))))))) (tRet (tLst (tCons (tC (.int (-33))) tNil))) tNext)
    (tSeq (tAsg (tFld K (tVar 5) "kit") (gName 6))
    (tSeq (sFld K (tVar 5) (tVar 4) "kit")
    (tSeq (sFld K (tVar 5) (tCall (sp_lack_of K) [] E0 (tCons (tOp (rIxL K) (tFld K (tVar 0) "kits") (tVar 4)) (tCons (tFld K (tVar 5) "desks") tNil))) "put")
    (tRet (tOp rCat (tLst (tCons (tVar 6) tNil)) (tFld K (tVar 5) "put"))))))))))))
abbrev N_longer : List Str := ["lib", "numbers", "lists", "at", "more", "hiring", "spell"]
/-- longer (level 7); slots: 0 lib, 1 numbers, 2 lists, 3 at, 4 more, 5 hiring, 6 spell -/
def t_longer (K : PySem.W.Frag) : TS := (tSeq (tAsg (tVar 1) (gLst K 2 (gCons (gName 3) (gCons (gName 4) gNil))))
    (tSeq (tIfS (tTest (tOp rGeI (tVar 3) (tCB (Evl.rLenS K) (tCons (tFld K (tVar 0) "hirings") tNil)))) (tRet (tLst (tCons (tC (.int (-2))) tNil))) tNext)
    (tSeq (tAsg (tOp (rIxL K) (tFld K (tVar 0) "hirings") (tVar 3)) (gName 5))
    (tSeq (tIfS (tNot (tB (tCall (sp_is_on K) [] E0 (tCons (tVar 5) tNil)))) (tRet (tLst (tCons (tC (.int (-16))) tNil))) tNext)
    (tSeq (tAsg (tOp rAddI (tFld K (tVar 5) "spell") (tVar 4)) (gName 6))
    (tSeq (tIfS (tOr (tTest (tOp rEq (tVar 4) (tC (.int 0)))) (tOr (tTest (tOp rGtI (tVar 6) (tC (.int (60))))) (tTest (tOp rGtI (tOp rAddI (tFld K (tVar 5) "first") (tVar 6)) (tC (.int (1000))))))) (tRet (tLst (tCons (tC (.int (-22))) tNil))) tNext)
    (tSeq (tIfS (tB (tCall (sp_is_any_in_way K) [] E0 (tCons (tVar 0) (tCons (tVar 3) (tCons (tVar 6) tNil))))) (tRet (tLst (tCons (tC (.int (-33))) tNil))) tNext)
    (tSeq (sFld K (tVar 5) (tVar 6) "spell")
    (tRet (tLst (tCons (tVar 6) tNil)))))))))))
abbrev N_slack : List Str := ["lib", "numbers", "lists", "at", "hiring", "behind", "more"]
/-- slack (level 7); slots: 0 lib, 1 numbers, 2 lists, 3 at, 4 hiring, 5 behind, 6 more -/
def t_slack (K : PySem.W.Frag) : TS := (tSeq (tAsg (tOp (rIxL K) (tVar 1) (tC (.int 0))) (gName 3))
    (tSeq (tIfS (tTest (tOp rGeI (tVar 3) (tCB (Evl.rLenS K) (tCons (tFld K (tVar 0) "hirings") tNil)))) (tRet (tLst (tCons (tC (.int (-2))) tNil))) tNext)
    (tSeq (tAsg (tOp (rIxL K) (tFld K (tVar 0) "hirings") (tVar 3)) (gName 4))
    (tSeq (tIfS (tNot (tB (tCall (sp_is_on K) [] E0 (tCons (tVar 4) tNil)))) (tRet (tLst (tCons (tC (.int (-16))) tNil))) tNext)
    (tSeq (tIfS (tB (tCall (sp_is_any_in_way K) [] E0 (tCons (tVar 0) (tCons (tVar 3) (tCons (tFld K (tVar 4) "spell") tNil))))) (tRet (tLst (tCons (tC (.int 0)) tNil))) tNext)
    (tSeq (tAsg (tOp rAddI (tOp rAddI (tFld K (tVar 4) "first") (tFld K (tVar 4) "spell")) (tFld K (tVar 0) "turn")) (gName 5))
    (tSeq (tFor (iRng1 (tCons (tC (.int (60))) tNil)) (gName 6) (tIfS (tB (tCall (sp_is_in_way K) [] E0 (tCons (tVar 0) (tCons (tVar 3) (tCons (tOp rAddI (tVar 5) (tVar 6)) tNil))))) (tRet (tLst (tCons (tVar 6) tNil))) tNext))
    (tRet (tLst (tCons (tC (.int (60))) tNil))))))))))
abbrev N_hire : List Str := ["lib", "numbers", "lists", "work", "first", "spell", "concerts", "clean", "wish", "some"]
/-- hire (level 8); slots: 0 lib, 1 numbers, 2 lists, 3 work, 4 first, 5 spell, 6 concerts, 7 clean, 8 wish, 9 some -/
def t_hire (K : PySem.W.Frag) : TS := (tSeq (tAsg (tVar 1) (gLst K 5 (gCons (gName 3) (gCons (gName 4) (gCons (gName 5) (gCons (gName 6) (gCons (gName 7) gNil)))))))
    (tSeq (tIfS (tTest (tOp rGeI (tVar 3) (tCB (Evl.rLenS K) (tCons (tFld K (tVar 0) "works") tNil)))) (tRet (tLst (tCons (tC (.int (-2))) tNil))) tNext)
    (tSeq (tIfS (tOr (tNot (tB (tCall (sp_are_days_right K) [] E0 (tCons (tVar 0) (tCons (tVar 4) (tCons (tVar 5) tNil)))))) (tOr (tNot (tTest (tChain rLeI rLeI (tC (.int 1)) (tVar 6) (tC (.int (20)))))) (tTest (tOp rGtI (tVar 7) (tC (.int 1)))))) (tRet (tLst (tCons (tC (.int (-22))) tNil))) tNext)
    (tSeq (tIfS (tNot (tB (tCall (sp_are_parts K) [] E0 (tCons (tOp (rIxL K) (tVar 2) (tC (.int 0))) tNil)))) (tRet (tLst (tCons (tC (.int (-22))) tNil))) tNext)
    (tSeq (tIfS (tTest (tOp rEq (tCB (Evl.rLenS K) (tCons (tFld K (tVar 0) "hirings") tNil)) (tC (.int (40))))) (tRet (tLst (tCons (tC (.int (-28))) tNil))) tNext)
    (tSeq (tAsg (tMake (He.ga K "Hiring") (sp_init_Hiring K) [] E0 (tCons (tVar 3) (tCons (tVar 4) (tCons (tVar 5) (tCons (tVar 6) (tCons (tVar 7) (tCons (tCB (Evl.rListS K) (tCons (tOp (rIxL K) (tVar 2) (tC (.int 0))) tNil)) tNil))))))) (gName 8))
    (tSeq (tAsg (tCall (sp_that_do K) [] E0 (tCons (tVar 0) (tCons (tVar 8) (tCons (tC (.int (-1))) tNil)))) (gName 9))
    (tSeq (tIfS (tTest (tOp (rEqD K) (tVar 9) (tLst tNil))) (tRet (tLst (tCons (tC (.int (-33))) tNil))) tNext)
    (tSeq (sFld K (tVar 8) (tCall (sp_best_of K) [] E0 (tCons (tVar 0) (tCons (tVar 9) (tCons (tFld K (tVar 8) "desks") tNil)))) "kit")
    (tSeq (sFld K (tVar 8) (tCall (sp_lack_of K) [] E0 (tCons (tOp (rIxL K) (tFld K (tVar 0) "kits") (tFld K (tVar 8) "kit")) (tCons (tFld K (tVar 8) "desks") tNil))) "put")
    (tSeq (tDrop (tBM K "list" rAppend (tFld K (tVar 0) "hirings") (tCons (tVar 8) tNil)))
    (tRet (tOp rCat (tLst (tCons (tOp rSubI (tCB (Evl.rLenS K) (tCons (tFld K (tVar 0) "hirings") tNil)) (tC (.int 1))) (tCons (tFld K (tVar 8) "kit") tNil))) (tFld K (tVar 8) "put"))))))))))))))
abbrev N_some_that_do : List Str := ["lib", "numbers", "desks", "work", "first", "spell"]
/-- some_that_do (level 8); slots: 0 lib, 1 numbers, 2 desks, 3 work, 4 first, 5 spell -/
def t_some_that_do (K : PySem.W.Frag) : TS := (tSeq (tAsg (tVar 1) (gLst K 3 (gCons (gName 3) (gCons (gName 4) (gCons (gName 5) gNil)))))
    (tRet (tCall (sp_that_do K) [] E0 (tCons (tVar 0) (tCons (tMake (He.ga K "Hiring") (sp_init_Hiring K) [] E0 (tCons (tVar 3) (tCons (tVar 4) (tCons (tVar 5) (tCons (tC (.int 1)) (tCons (tC (.int 0)) (tCons (tCB (Evl.rListS K) (tCons (tVar 2) tNil)) tNil))))))) (tCons (tC (.int (-1))) tNil))))))
abbrev N_could : List Str := ["lib", "numbers", "lists", "why"]
/-- could (level 9); slots: 0 lib, 1 numbers, 2 lists, 3 why -/
def t_could (K : PySem.W.Frag) : TS := (tSeq (tAsg (tCall (sp_why_not_asked K) [] E0 (tCons (tVar 0) (tCons (tVar 1) (tCons (tOp (rIxL K) (tVar 2) (tC (.int 0))) tNil)))) (gName 3))
    (tSeq (tIfS (tTest (tOp rNe (tVar 3) (tC (.int 0)))) (tRet (tLst (tCons (tVar 3) tNil))) tNext)
    (tRet (tLst (tCons (tCB rInt1 (tCons (tOp (rNeD K) (tCall (sp_some_that_do K) [] E0 (tCons (tVar 0) (tCons (tVar 1) (tCons (tOp (rIxL K) (tVar 2) (tC (.int 0))) tNil)))) (tLst tNil)) tNil)) tNil)))))
abbrev N_choices : List Str := ["lib", "numbers", "lists", "why", "some", "found", "at", "kit"]
/-- choices (level 9); slots: 0 lib, 1 numbers, 2 lists, 3 why, 4 some, 5 found, 6 at, 7 kit -/
def t_choices (K : PySem.W.Frag) : TS := (tSeq (tAsg (tCall (sp_why_not_asked K) [] E0 (tCons (tVar 0) (tCons (tVar 1) (tCons (tOp (rIxL K) (tVar 2) (tC (.int 0))) tNil)))) (gName 3))
    (tSeq (tIfS (tTest (tOp rNe (tVar 3) (tC (.int 0)))) (tRet (tLst (tCons (tVar 3) tNil))) tNext)
    (tSeq (tAsg (tCall (sp_some_that_do K) [] E0 (tCons (tVar 0) (tCons (tVar 1) (tCons (tOp (rIxL K) (tVar 2) (tC (.int 0))) tNil)))) (gName 4))
    (tSeq (tAsg (tLst (tCons (tCB (Evl.rLenS K) (tCons (tVar 4) tNil)) tNil)) (gName 5))
    (tSeq (tFor (iList K (tVar 4)) (gName 6) (tSeq (tAsg (tOp (rIxL K) (tFld K (tVar 0) "kits") (tVar 6)) (gName 7))
    (tDrop (tBM K "list" rExtend (tVar 5) (tCons (tLst (tCons (tVar 6) (tCons (tCB (rSum K) (tCons (tCall (sp_lack_of K) [] E0 (tCons (tVar 7) (tCons (tOp (rIxL K) (tVar 2) (tC (.int 0))) tNil))) tNil)) (tCons (tCall (sp_extra_of K) [] E0 (tCons (tVar 7) (tCons (tOp (rIxL K) (tVar 2) (tC (.int 0))) tNil))) tNil)))) tNil)))))
    (tRet (tVar 5)))))))
abbrev N_answer_to : List Str := ["lib", "code", "numbers", "lists", "deed"]
/-- answer_to (level 10); slots: 0 lib, 1 code, 2 numbers, 3 lists, 4 deed -/
def t_answer_to (K : PySem.W.Frag) : TS := (tSeq (tIfS (tAnd (tTest (tOp rNe (tVar 1) (tC (.int (0))))) (tNot (tB (tFld K (tVar 0) "is_begun")))) (tRet (tLst (tCons (tC (.int (-11))) tNil))) tNext)
    (tSeq (tAsg (tOp (rIxT K) (tC (.ref (He.ga K "DEEDS"))) (tVar 1)) (gName 4))
    (tRet (tCallR 4 (deeds K) (tCons (tVar 0) (tCons (tVar 2) (tCons (tVar 3) tNil)))))))
abbrev N_answers : List Str := ["calls", "lib", "told", "at", "code", "behind", "numbers", "lists", "found"]
/-- answers (level 11); slots: 0 calls, 1 lib, 2 told, 3 at, 4 code, 5 behind, 6 numbers, 7 lists, 8 found -/
def t_answers (K : PySem.W.Frag) : TS := (tSeq (tAsg (tMake (He.ga K "Library") (sp_init_Library K) [] E0 tNil) (gName 1))
    (tSeq (tAsg (tLst tNil) (gName 2))
    (tSeq (tAsg (tC (.int 0)) (gName 3))
    (tSeq (tWhile (tTest (tOp rLtI (tVar 3) (tCB (Evl.rLenS K) (tCons (tVar 0) tNil)))) (tSeq (tAsg (tOp (rIxL K) (tVar 0) (tVar 3)) (gName 4))
    (tSeq (tAsg (tOp rAddI (tOp rAddI (tVar 3) (tC (.int 1))) (tOp (rIxT K) (tC (.ref (He.ga K "PLAIN"))) (tVar 4))) (gName 5))
    (tSeq (tAsg (tSl (rSlL K) (tVar 0) (tPart (tOp rAddI (tVar 3) (tC (.int 1)))) (tPart (tVar 5))) (gName 6))
    (tSeq (tAsg (tCall (sp_rows_at K) [] E0 (tCons (tVar 0) (tCons (tVar 5) (tCons (tOp (rIxT K) (tC (.ref (He.ga K "ROWS"))) (tVar 4)) tNil)))) (gTup K 2 (gCons (gName 7) (gCons (gName 3) gNil))))
    (tSeq (tAsg (tCall (sp_answer_to K) [] E0 (tCons (tVar 1) (tCons (tVar 4) (tCons (tVar 6) (tCons (tVar 7) tNil))))) (gName 8))
    (tSeq (tDrop (tBM K "list" rAppend (tVar 2) (tCons (tCB (Evl.rLenS K) (tCons (tVar 8) tNil)) tNil)))
    (tDrop (tBM K "list" rExtend (tVar 2) (tCons (tVar 8) tNil))))))))))
    (tRet (tVar 2))))))
end Pl

/-! ### plain facts -/
namespace Pl
open PySem PySem.Spec PyProof.Rows L2
open Kv321 (Abs Hire Set_ at5 map5 five okDesks okDays)
theorem list_ix {α : Type} (l : List α) (d : α) : l = (List.range l.length).map fun i => l.getD i d := by
  refine List.ext_getElem? fun i => ?_
  rw [List.getElem?_map]
  by_cases h : i < l.length
  · rw [List.getElem?_range h, List.getElem?_eq_getElem h]
    simp [List.getD_eq_getElem?_getD, List.getElem?_eq_getElem h]
  · rw [List.getElem?_eq_none (by omega), List.getElem?_eq_none (by rw [List.length_range]; omega)]
    rfl
theorem hires_ix (a : Abs) : a.hires = (List.range a.hires.length).map a.hire := list_ix a.hires _
theorem sets_ix (a : Abs) : a.sets = (List.range a.sets.length).map a.set := list_ix a.sets _
theorem out_ix (a : Abs) (s : Nat) : a.out s = (List.range a.hires.length).any fun h => (a.hire h).how == 1 && (a.hire h).set == s := by
  show a.hires.any _ = _
  conv => lhs; rw [hires_ix a]
  rw [List.any_map]
  rfl
theorem beqN {i j : Nat} : (i == j) = decide ((i : Int) = (j : Int)) := by
  by_cases h : i = j
  · subst h
    simp
  · have h2 : ¬ (i : Int) = (j : Int) := by omega
    rw [decide_eq_false h2]
    exact beq_eq_false_iff_ne.mpr h
theorem bI_ne (n : Nat) (x : Option Nat) : (!decide (((n : Nat) : Int) = bI x)) = (x != some n) := by
  cases x with
  | none =>
    have h : ¬ ((n : Nat) : Int) = bI none := by
      show ¬ (n : Int) = -1
      omega
    rw [decide_eq_false h]
    rfl
  | some m =>
    by_cases h : n = m
    · subst h
      rw [decide_eq_true (show ((n : Nat) : Int) = bI (some n) from rfl)]
      simp
    · have h2 : ¬ ((n : Nat) : Int) = bI (some m) := by
        show ¬ (n : Int) = (m : Int)
        omega
      rw [decide_eq_false h2]
      have h3 : (some m != some n) = true := by
        rw [bne_iff_ne]
        intro z
        exact h (Option.some.inj z).symm
      rw [h3]
      rfl
section
variable {K : PySem.W.Frag} {mg : Str → Option Value} {vs : List V} {H : Hp} {d : Dsc}
/-! ### readings: stock, times -/
theorem ev_if_iff {p q : Bool} (h : p = q) : V.bl p = V.bl q := congrArg V.bl h
theorem go_ifS {σ : L2.St} {t : TT} {ts tr : TS} {P : Post} {b : Bool} (h : EvT t σ H b) (h1 : b = true → Go (tSeq ts tr) σ H P) (h2 : b = false → Go tr σ H P) : Go (tSeq (tIfS t ts tNext) tr) σ H P := fun H1 e D q =>
  h H1 e _ fun H2 e2 => by
    cases b with
    | true =>
      show tSeq ts tr D σ H2
      exact h1 rfl H2 (e.trans e2) _ fun w H3 h3 => q w H3 (P.dn e2 h3)
    | false =>
      show tr D σ H2
      exact h2 rfl H2 (e.trans e2) D fun w H3 h3 => q w H3 (P.dn e2 h3)
theorem rd_last_day (T : Txt K mg) (h : pr_last_day K vs H d) : Go (t_last_day K) (start N_last_day vs) H d.post := by
  obtain ⟨x, z, rfl, hz, rfl⟩ := h
  exact go_ret (ev_I (ev_I (ev_fld (ev_var rfl) (hz.first T)) (ev_fld (ev_var rfl) (hz.spell T))) ev_c)
theorem rd_is_on (T : Txt K mg) (h : pr_is_on K vs H d) : Go (t_is_on K) (start N_is_on vs) H d.post := by
  obtain ⟨x, z, rfl, hz, rfl⟩ := h
  refine go_ret ((ev_orV (ev_eq (ev_fld (ev_var rfl) (hz.how T)) ev_c) (fun _ => ev_eq (ev_fld (ev_var rfl) (hz.how T)) ev_c)).is (congrArg V.bl ?_))
  rw [← Bool.decide_or]
  exact decide_eq_decide.mpr (by omega)
theorem rd_end_of (T : Txt K mg) (h : pr_end_of K vs H d) : Go (t_end_of K) (start N_end_of vs) H d.post := by
  obtain ⟨A, D, b, a, f, n, rfl, R, rfl⟩ := h
  exact go_ret ((ev_I (ev_I (ev_var rfl) (ev_var rfl)) (ev_fld (ev_var rfl) (R.turn T))).is (congrArg V.int (by omega)))
theorem ca_last_day {σ : L2.St} {te : TE} {x : Addr} {z : Hire} (hz : Hir K H x z) (h : Ev te σ H (dV (.ref x))) : Ev (tCall (sp_last_day K) [] E0 (tCons te tNil)) σ H (dV (.int ((z.from_ : Int) + (z.days : Int) - 1))) :=
  ev_call (vs := [.ref x]) (ea_cons h ea_nil) fun H1 e => ⟨x, z, rfl, hz.up e, rfl⟩
theorem ca_is_on {σ : L2.St} {te : TE} {x : Addr} {z : Hire} (hz : Hir K H x z) (h : Ev te σ H (dV (.ref x))) : Ev (tCall (sp_is_on K) [] E0 (tCons te tNil)) σ H (dV (.bl (decide (z.how < 2)))) :=
  ev_call (vs := [.ref x]) (ea_cons h ea_nil) fun H1 e => ⟨x, z, rfl, hz.up e, rfl⟩
theorem rd_over_day (T : Txt K mg) (h : pr_over_day K vs H d) : Go (t_over_day K) (start N_over_day vs) H d.post := by
  obtain ⟨A, D, b, a, x, z, rfl, R, hz, rfl⟩ := h
  refine go_asg (ca_last_day hz (ev_var rfl)) ?_
  refine go_ifS (et_and (et_test (ev_eq (ev_fld (ev_var rfl) (hz.how T)) ev_c)) (fun _ => et_test (ev_I (ev_fld (ev_var rfl) (R.today T)) (ev_var rfl)))) (fun hb => ?_) fun hb => ?_
  · obtain ⟨h1, h2⟩ := Bool.and_eq_true_iff.mp hb
    have h1' := of_decide_eq_true h1
    have h2' := of_decide_eq_true h2
    refine go_asg (ev_fld (ev_var rfl) (R.today T)) (go_ret ((ev_I (ev_I (ev_var rfl) (ev_fld (ev_var rfl) (R.turn T))) ev_c).is (congrArg V.int ?_)))
    have e : a.over z = max (z.from_ + z.days) (a.today + 1) + a.turn := by
      unfold Kv321.Abs.over
      rw [if_pos (by omega)]
    rw [e]
    omega
  · refine go_ret ((ev_I (ev_I (ev_var rfl) (ev_fld (ev_var rfl) (R.turn T))) ev_c).is (congrArg V.int ?_))
    have e : a.over z = z.from_ + z.days + a.turn := by
      unfold Kv321.Abs.over
      by_cases h1 : z.how = 1
      · rw [if_pos h1]
        rw [Bool.and_eq_false_iff] at hb
        rcases hb with hb | hb
        · have := of_decide_eq_false hb
          omega
        · have := of_decide_eq_false hb
          omega
      · rw [if_neg h1]
    rw [e]
    omega
theorem ca_over_day {σ : L2.St} {te tl : TE} {x : Addr} {z : Hire} {A D : Tag → Addr} {b : Bool} {a : Abs} (R : Rep K H A D b a) (hz : Hir K H x z) (hl : Ev tl σ H (dV (.ref (A .lib)))) (h : Ev te σ H (dV (.ref x))) :
    Ev (tCall (sp_over_day K) [] E0 (tCons tl (tCons te tNil))) σ H (dV (.int ((a.over z : Nat) : Int))) :=
  ev_call (vs := [.ref (A .lib), .ref x]) (ea_cons hl (ea_cons h ea_nil)) fun H1 e => ⟨A, D, b, a, x, z, rfl, R.up e, hz.up e, rfl⟩
theorem rd_has_on (T : Txt K mg) (h : pr_has_on K vs H d) : Go (t_has_on K) (start N_has_on vs) H d.post := by
  obtain ⟨A, D, b, a, x, z, n, rfl, R, hz, rfl⟩ := h
  refine go_ret ((ev_andV (ca_is_on hz (ev_var rfl)) (fun _ => ev_chain (ev_fld (ev_var rfl) (hz.first T)) (ev_var rfl) (ca_over_day R hz (ev_var rfl) (ev_var rfl)))).is (congrArg V.bl ?_))
  unfold hasOn
  congr 1
  congr 1
  · exact decide_eq_decide.mpr (by omega)
  · exact decide_eq_decide.mpr (by omega)
theorem ca_has_on {σ : L2.St} {te tl tn : TE} {x : Addr} {z : Hire} {n : Nat} {A D : Tag → Addr} {b : Bool} {a : Abs} (R : Rep K H A D b a) (hz : Hir K H x z) (hl : Ev tl σ H (dV (.ref (A .lib)))) (h : Ev te σ H (dV (.ref x))) (hn : Ev tn σ H (dV (.int (n : Nat)))) :
    Ev (tCall (sp_has_on K) [] E0 (tCons tl (tCons te (tCons tn tNil)))) σ H (dV (.bl (hasOn a z n))) :=
  ev_call (vs := [.ref (A .lib), .ref x, .int (n : Nat)]) (ea_cons hl (ea_cons h (ea_cons hn ea_nil))) fun H1 e => ⟨A, D, b, a, x, z, n, rfl, R.up e, hz.up e, rfl⟩
theorem rd_late_by (T : Txt K mg) (h : pr_late_by K vs H d) : Go (t_late_by K) (start N_late_by vs) H d.post := by
  obtain ⟨A, D, b, a, x, z, rfl, R, hz, rfl⟩ := h
  refine go_ret ((ev_max2 ev_c (ev_I (ev_fld (ev_var rfl) (R.today T)) (ca_last_day hz (ev_var rfl)))).is (congrArg V.int ?_))
  unfold Kv321.Abs.late
  split <;> omega
theorem ca_late_by {σ : L2.St} {te tl : TE} {x : Addr} {z : Hire} {A D : Tag → Addr} {b : Bool} {a : Abs} (R : Rep K H A D b a) (hz : Hir K H x z) (hl : Ev tl σ H (dV (.ref (A .lib)))) (h : Ev te σ H (dV (.ref x))) :
    Ev (tCall (sp_late_by K) [] E0 (tCons tl (tCons te tNil))) σ H (dV (.int ((a.late z : Nat) : Int))) :=
  ev_call (vs := [.ref (A .lib), .ref x]) (ea_cons hl (ea_cons h ea_nil)) fun H1 e => ⟨A, D, b, a, x, z, rfl, R.up e, hz.up e, rfl⟩
theorem rd_is_out (T : Txt K mg) (h : pr_is_out K vs H d) : Go (t_is_out K) (start N_is_out vs) H d.post := by
  obtain ⟨A, D, b, a, s, rfl, R, W, rfl⟩ := h
  have h1 := W.nH
  refine go_ret (Ev.is (ev_any (bs := (List.range a.hires.length).map fun i => decide (((a.hire i).how : Int) = 1) && decide (((a.hire i).set : Int) = (s : Int))) (Ev.isL (Ev.L (ev_lcL (fun i => .ref (A (.hir i))) (fun _ => true)
    (fun i => .bl (decide (((a.hire i).how : Int) = 1) && decide (((a.hire i).set : Int) = (s : Int)))) (ev_hirings T R (ev_var rfl)) (by omega) (fun k hk => et_yes)
    (fun k hk _ => ev_andV (ev_eq (ev_fld (ev_var rfl) ((R.hir hk).how T)) ev_c) (fun _ => ev_eq (ev_fld (ev_var rfl) ((R.hir hk).kit T)) (ev_var rfl))))) ?_)) (congrArg V.bl ?_))
  · rw [filter_all, List.map_map]
    rfl
  · rw [List.any_map, out_ix]
    refine List.any_congr rfl fun i => ?_
    show (decide _ && decide _) = _
    rw [beqN, beqN]
    rfl
theorem ca_is_out {σ : L2.St} {tl ts : TE} {s : Nat} {A D : Tag → Addr} {b : Bool} {a : Abs} (R : Rep K H A D b a) (W : Wf a) (hl : Ev tl σ H (dV (.ref (A .lib)))) (h : Ev ts σ H (dV (.int (s : Nat)))) :
    Ev (tCall (sp_is_out K) [] E0 (tCons tl (tCons ts tNil))) σ H (dV (.bl (a.out s))) :=
  ev_call (vs := [.ref (A .lib), .int (s : Nat)]) (ea_cons hl (ea_cons h ea_nil)) fun H1 e => ⟨A, D, b, a, s, rfl, R.up e, W, rfl⟩
theorem rd_are_parts (T : Txt K mg) (h : pr_are_parts vs H d) : Go (t_are_parts K) (start N_are_parts vs) H d.post := by
  obtain ⟨p, l, rfl, hp, rfl⟩ := h
  refine go_ret ((ev_andV (b := (l.map fun (n : Nat) => decide ((n : Int) ≤ 20)).all id) (ev_eq (ev_lenD ((ev_var rfl).asL hp)) ev_c) (fun hb => ?_)).is (congrArg V.bl ?_))
  · have h5 := of_decide_eq_true hb
    rw [vns_len] at h5
    have h6 : l.length = 5 := by omega
    have e1 : vns l = (List.range 5).map fun i => V.int (at5 l i : Nat) := vns5 h6
    refine ev_all (Ev.isL (Ev.L (ev_lcL (n := 5) (fun i => V.int (at5 l i : Nat)) (fun _ => true) (fun i => .bl (decide ((at5 l i : Int) ≤ 20))) (((ev_var rfl).asL hp).isL e1) (by omega) (fun k hk => et_yes) (fun k hk _ => ev_I (ev_var rfl) ev_c))) ?_)
    rw [filter_all]
    conv => rhs; rw [list5 h6]
    unfold map5
    rw [List.map_map, List.map_map]
    rfl
  · rw [vns_len]
    unfold okDesks
    congr 1
    · rw [beqN]
      rfl
    · rw [List.all_map]
      refine List.all_congr rfl fun n => ?_
      exact decide_eq_decide.mpr (by show (n : Int) ≤ 20 ↔ n ≤ 20; omega)
theorem ca_are_parts {σ : L2.St} {te : TE} {p : Addr} {l : List Nat} (hp : H p = some (.lst (vns l))) (h : Ev te σ H (dV (.ref p))) : Ev (tCall (sp_are_parts K) [] E0 (tCons te tNil)) σ H (dV (.bl (okDesks l))) :=
  ev_call (vs := [.ref p]) (ea_cons h ea_nil) fun H1 e => ⟨p, l, rfl, e _ _ hp, rfl⟩
theorem rd_there_of (T : Txt K mg) (h : pr_there_of K vs H d) : Go (t_there_of K) (start N_there_of vs) H d.post := by
  obtain ⟨x, k, rfl, hk, h1, h2, rfl⟩ := h
  refine go_ret (ev_lc5 (fun i => .int ((at5 k.strings i : Int) - (at5 k.gone i : Int))) ev_c fun i hi => ?_)
  exact ev_I (ev_ixD (ev_fldL (ev_var rfl) (hk.strings T)) (ev_var rfl) (atI_vns (by omega))) (ev_ixD (ev_fldL (ev_var rfl) (hk.gone T)) (ev_var rfl) (atI_vns (by omega)))
theorem rd_are_enough (T : Txt K mg) (h : pr_are_enough vs H d) : Go (t_are_enough K) (start N_are_enough vs) H d.post := by
  obtain ⟨p, q, f, g, rfl, hp, hq, rfl⟩ := h
  refine go_ret (Ev.is (ev_all (bs := (List.range 5).map fun i => decide (f i = 0) || decide (f i ≤ g i)) (Ev.isL (Ev.L (ev_lc5 (fun i => .bl (decide (f i = 0) || decide (f i ≤ g i))) ev_c fun i hi =>
      ev_orV (ev_eq (ev_ixL (ev_var rfl) (ev_var rfl) (SqL.of hp) (atI_lF5 hi)) ev_c) fun _ => ev_I (ev_ixL (ev_var rfl) (ev_var rfl) (SqL.of hp) (atI_lF5 hi)) (ev_ixL (ev_var rfl) (ev_var rfl) (SqL.of hq) (atI_lF5 hi)))) ?_)) (congrArg V.bl ?_))
  · rw [List.map_map]
    rfl
  · rw [List.all_map]
    rfl
theorem rd_are_days_right (T : Txt K mg) (h : pr_are_days_right K vs H d) : Go (t_are_days_right K) (start N_are_days_right vs) H d.post := by
  obtain ⟨A, D, b, a, f, n, rfl, R, rfl⟩ := h
  refine go_if (et_or (et_test (ev_I (ev_var rfl) (ev_fld (ev_var rfl) (R.today T)))) (fun _ => et_not (et_test (ev_chain ev_c (ev_var rfl) ev_c)))) (fun hb => ?_) fun hb => ?_
  · refine go_ret (ev_c.is (congrArg V.bl ?_))
    unfold okDays
    rw [Bool.or_eq_true, Bool.not_eq_true'] at hb
    rcases hb with hb | hb
    · have := of_decide_eq_true hb
      rw [decide_eq_false (show ¬ a.today ≤ f by omega)]
      rfl
    · rw [Bool.and_eq_false_iff] at hb
      rcases hb with hb | hb
      · have := of_decide_eq_false hb
        rw [decide_eq_false (show ¬ 1 ≤ n by omega), Bool.false_and, Bool.and_false]
      · have := of_decide_eq_false hb
        rw [decide_eq_false (show ¬ n ≤ 60 by omega), Bool.false_and, Bool.and_false, Bool.and_false]
  · refine go_ret ((ev_I (ev_I (ev_var rfl) (ev_var rfl)) ev_c).is (congrArg V.bl ?_))
    unfold okDays
    rw [Bool.or_eq_false_iff, Bool.not_eq_false', Bool.and_eq_true] at hb
    have h1 := of_decide_eq_false hb.1
    have h2 := of_decide_eq_true hb.2.1
    have h3 := of_decide_eq_true hb.2.2
    rw [decide_eq_true (show a.today ≤ f by omega), decide_eq_true (show 1 ≤ n by omega), decide_eq_true (show n ≤ 60 by omega), Bool.true_and, Bool.true_and, Bool.true_and]
    exact decide_eq_decide.mpr (by omega)
end
end Pl

/-! ### lists that a def makes and changes -/
namespace Pl
open PySem PySem.Spec PyProof.Rows L2
open Kv321 (Abs Hire Set_ at5 map5 five okDesks okDays)
section
variable {K : PySem.W.Frag} {mg : Str → Option Value} {vs : List V} {H : Hp} {d : Dsc} {σ : L2.St} {te ta tb tl to ti : TE} {v : V} {D : Ends} {g : TG} {ts tw : TS}
theorem Ev.e (h : Ev te σ H (dV v)) : Evl.Ev te σ H v := fun H1 e Q q => h H1 e Q fun w H2 e2 hw => by
  subst hw
  exact q H2 e2
theorem Ev.eL {xs : List V} (h : Ev te σ H (dN xs)) : Evl.EvL te σ H xs := fun H1 e Q q => h H1 e Q fun w H2 e2 ⟨p, h1, h2, h3⟩ => by
  subst h1
  exact q p H2 h2 e2 h3
theorem cps_asg {n : Nat} (h : Ev te σ H d) (k : ∀ v H1, Ex H H1 → d.is H v H1 → tw D (σ.set n (some v)) H1) : tSeq (tAsg te (gName n)) tw D σ H := h H (Ex.refl H) _ fun v H1 e hv => k v H1 e hv
theorem cps_for {wi : TI} (h : tFor wi g ts { D with nx := tw D } σ H) : tSeq (tFor wi g ts) tw D σ H := h
theorem cps_ret (h : Ev te σ H d) (k : ∀ v H1, Ex H H1 → d.is H v H1 → D.rt v H1) : tRet te D σ H := h H (Ex.refl H) _ fun v H1 e hv => k v H1 e hv
theorem cps_ifS {b : Bool} {t : TT} (h : EvT t σ H b) (h1 : b = true → ∀ H1, Ex H H1 → ts D σ H1) (h2 : b = false → ∀ H1, Ex H H1 → tw D σ H1) : tIfS t ts tw D σ H := h H (Ex.refl H) _ fun H1 e => by
  cases b with
  | true => exact h1 rfl H1 e
  | false => exact h2 rfl H1 e
theorem for_enum {a : Addr} {xs : List V} {m m' : Nat} (h : Ev tl σ H (dV (.ref a))) (hx : SqL K H a xs) (Pv : Nat → L2.St → Hp → Prop) (h0 : ∀ H1, Ex H H1 → Pv 0 σ H1) (hG : ∀ i σ' H', i ≤ xs.length → Pv i σ' H' → SqL K H' a xs)
    (hs : ∀ i x σ' H' T, xs[i]? = some x → Pv i σ' H' → H' T = none → ts { D with nx := Pv (i + 1), ct := Pv (i + 1), bk := D.nx } ((σ'.set m (some (.int (i : Nat)))).set m' (some x)) (upd H' T (.tup [.int (i : Nat), x]))) (hd : ∀ σ' H', Pv xs.length σ' H' → D.nx σ' H') :
    tFor (iEnum K (tCons tl tNil)) (gTup K 2 (gCons (gName m) (gCons (gName m') gNil))) ts D σ H := h H (Ex.refl H) _ fun w H1 e hw => by
  subst hw
  refine ⟨a, xs, rfl, sqL_up e hx, for_it walk_enum Pv (h0 H1 e) hG (fun i x σ' Hc H' hi p hy => ?_) hd⟩
  obtain ⟨T, y, z, rfl, hT, rfl, h4, h5⟩ := hy
  have h4' := Option.some.inj h4
  subst h4'
  exact ⟨T, _, rfl, SqT.of upd_same, rfl, _, _, rfl, _, _, rfl, rfl, hs i z σ' Hc T h5 p hT⟩
theorem lF5_set {F : Nat → Int} {j : Nat} {y : Int} (hj : j < 5) : (lF5 F).set j (.int y) = lF5 fun i => if i = j then y else F i := by
  match j, hj with
  | 0, _ => rfl
  | 1, _ => rfl
  | 2, _ => rfl
  | 3, _ => rfl
  | 4, _ => rfl
/-- xs[j] op= e, xs of five -/
theorem s_augL {p : Addr} {F : Nat → Int} {j : Nat} {y : Int} {f : Int → Int → Int} (hp : H p = some (.lst (lF5 F))) (ho : Ev to σ H (dV (.ref p))) (hi : Ev ti σ H (dV (.int (j : Nat)))) (he : Ev te σ H (dV (.int y))) (hj : j < 5)
    (k : ∀ H1, Ex H H1 → D.nx σ (upd H1 p (.lst (lF5 fun i => if i = j then f (F j) y else F i)))) : tAugS to ti te (rIxL K) (ipI f) rSetL D σ H := ho H (Ex.refl H) _ fun w H1 e1 hw => by
  subst hw
  refine hi H1 e1 _ fun w H2 e2 hw => ?_
  subst hw
  have e12 := e1.trans e2
  refine ⟨p, _, _, _, rfl, rfl, SqL.of (e12 _ _ hp), atI_lF5 hj, ?_⟩
  refine he H2 e12 _ fun w H3 e3 hw => ?_
  subst hw
  refine ⟨F j, y, rfl, rfl, p, _, _, j, rfl, rfl, (e12.trans e3) _ _ hp, Evl.ixN_nat (by rw [lF5_len]; exact hj), ?_⟩
  have h := k H3 (e12.trans e3)
  rw [lF5_set hj]
  exact h
theorem s_setF {p : Addr} {F : Nat → Int} {j : Nat} {y : Int} (hp : H p = some (.lst (lF5 F))) (ho : Ev to σ H (dV (.ref p))) (hi : Ev ti σ H (dV (.int (j : Nat)))) (he : Ev te σ H (dV (.int y))) (hj : j < 5)
    (k : ∀ H1, Ex H H1 → D.nx σ (upd H1 p (.lst (lF5 fun i => if i = j then y else F i)))) : tAsg te (gSub to ti rSetL) D σ H :=
  Evl.s_setL hp he.e ho.e hi.e (by rw [lF5_len]; exact hj) fun H1 e => by
    have h := k H1 e
    rw [lF5_set hj]
    exact h
theorem ca_others_of {tw tx : TE} {w : Nat} {x : Option Nat} {A D : Tag → Addr} {b : Bool} {a : Abs} (R : Rep K H A D b a) (W : Wf a) (hl : Ev tl σ H (dV (.ref (A .lib)))) (h1 : Ev tw σ H (dV (.int (w : Nat)))) (h2 : Ev tx σ H (dV (.int (bI x)))) :
    Ev (tCall (sp_others_of K) [] E0 (tCons tl (tCons tw (tCons tx tNil)))) σ H (dN (((a.others x).filter fun h => (a.hire h).work == w && decide ((a.hire h).how < 2)).map fun h => .ref (A (.hir h)))) :=
  ev_call (vs := [.ref (A .lib), .int (w : Nat), .int (bI x)]) (ea_cons hl (ea_cons h1 (ea_cons h2 ea_nil))) fun H1 e => ⟨A, D, b, a, w, x, rfl, R.up e, W, rfl⟩
theorem rd_others_of (T : Txt K mg) (h : pr_others_of K vs H d) : Go (t_others_of K) (start N_others_of vs) H d.post := by
  obtain ⟨A, DD, b, a, w, x, rfl, R0, W, rfl⟩ := h
  intro H1 e D q
  have R := R0.up e
  have hn := W.nH
  obtain ⟨hl, f1, f2⟩ := R.hirings T
  refine cps_asg el_nil fun v H2 e2 hv => ?_
  obtain ⟨p, rfl, hp0, hp⟩ := hv
  have hlp : hl ≠ p := fresh_ne hp0 f2
  let cond : Nat → Bool := fun o => ((a.hire o).work == w && decide ((a.hire o).how < 2)) && (x != some o)
  let item : Nat → V := fun h => .ref (A (.hir h))
  refine cps_for (for_enum (K := K) (ev_fld (ev_var rfl) (f1.up e2)) (SqL.of (e2 _ _ f2)) (fun k σ' H' => (∃ s4 s5, σ' = [some (.ref (A .lib)), some (.int (w : Nat)), some (.int (bI x)), some (.ref p), s4, s5]) ∧ Ex H1 H' ∧ H' p = some (.lst (Evl.given k cond item)))
    (fun H3 e3 => ⟨⟨none, none, rfl⟩, e2.trans e3, e3 _ _ hp⟩) (fun k σ' H' _ ⟨_, e3, _⟩ => SqL.of (e3 _ _ f2)) (fun k y σ' H' Tt hy ⟨⟨s4, s5, hσ⟩, e3, hc⟩ hT => ?_) fun σ' H' ⟨⟨s4, s5, hσ⟩, e3, hc⟩ => ?_)
  · subst hσ
    have hk : k < a.hires.length := by
      have h1 := (List.getElem?_eq_some_iff.mp hy).1
      rw [refs_len] at h1
      exact h1
    have ey : y = item k := by
      have h1 : (refs (fun i => A (.hir i)) a.hires.length)[k]? = some (item k) := by
        unfold refs
        rw [List.getElem?_map, List.getElem?_range hk]
        rfl
      rw [h1] at hy
      exact (Option.some.inj hy).symm
    subst ey
    have e4 : Ex H' (upd H' Tt (.tup [.int (k : Nat), item k])) := Ex.new hT
    have hz := (R.hir hk).up (e3.trans e4)
    have hc' := e4 _ _ hc
    have ec : (!decide (((k : Nat) : Int) = bI x) && (decide (((a.hire k).work : Int) = (w : Int)) && decide ((a.hire k).how < 2))) = cond k := by
      show _ = (((a.hire k).work == w && decide ((a.hire k).how < 2)) && (x != some k))
      rw [bI_ne, beqN, Bool.and_comm]
    refine cps_ifS (b := cond k) (EvT.is (et_and (b := decide (((a.hire k).work : Int) = (w : Int)) && decide ((a.hire k).how < 2)) (et_test (ev_ne (ev_var rfl) (ev_var rfl))) (fun _ => et_and (et_test (ev_eq (ev_fld (ev_var rfl) (hz.work T)) (ev_var rfl))) (fun _ => et_B (ca_is_on hz (ev_var rfl))))) ec) (fun hcd H3 e5 => ?_) fun hcd H3 e5 => ?_
    · refine Evl.s_app (e5 _ _ hc') (ev_var rfl).e (ev_var rfl).e (by have := Evl.given_len k cond item; omega) fun H4 e6 => ⟨⟨_, _, rfl⟩, ?_, ?_⟩
      · exact Ex.mut ((e3.trans e4).trans (e5.trans e6)) hp0
      · rw [Evl.given_yes hcd]
        exact upd_same
    · refine ⟨⟨_, _, rfl⟩, (e3.trans e4).trans e5, ?_⟩
      rw [Evl.given_no hcd]
      exact e5 _ _ hc'
  · subst hσ
    rw [refs_len] at hc
    show tRet (tVar 3) D _ H'
    refine cps_ret (ev_var (v := .ref p) rfl) fun v H3 e4 hv => q v H3 ⟨e3.trans e4, p, hv, hp0, ?_⟩
    rw [e4 _ _ hc]
    show some (HO.lst (((List.range a.hires.length).filter cond).map item)) = _
    unfold Kv321.Abs.others
    rw [List.filter_filter]
end
end Pl

/-! ### loose parts that are free -/
namespace Pl
open PySem PySem.Spec PyProof.Rows L2
open Kv321 (Abs Hire Set_ at5 map5 five okDesks okDays)
theorem take_more {α : Type} : ∀ {l : List α} {i : Nat} {x : α}, l[i]? = some x → l.take (i + 1) = l.take i ++ [x]
  | [], i, x, h => by simp at h
  | a :: l, 0, x, h => by
    have e : a = x := Option.some.inj h
    subst e
    rfl
  | a :: l, i + 1, x, h => by
    have ih := take_more (l := l) (i := i) (x := x) h
    show a :: l.take (i + 1) = a :: l.take i ++ [x]
    rw [ih]
    rfl
/-- what the first k of some hires have put by on a day -/
def lentTo (a : Abs) (l : List Nat) (n k i : Nat) : Nat := (((l.take k).filter fun h => hasOn a (a.hire h) n).map fun h => at5 (a.hire h).loose i).sum
theorem lentTo_yes {a : Abs} {l : List Nat} {n k i h : Nat} (e : l[k]? = some h) (c : hasOn a (a.hire h) n = true) : lentTo a l n (k + 1) i = lentTo a l n k i + at5 (a.hire h).loose i := by
  unfold lentTo
  rw [take_more e, List.filter_append, List.map_append, List.sum_append, List.filter_cons, if_pos c]
  simp
theorem lentTo_no {a : Abs} {l : List Nat} {n k i h : Nat} (e : l[k]? = some h) (c : hasOn a (a.hire h) n = false) : lentTo a l n (k + 1) i = lentTo a l n k i := by
  unfold lentTo
  rw [take_more e, List.filter_append, List.map_append, List.sum_append, List.filter_cons, if_neg (by rw [c]; decide)]
  simp
/-- the hires of a work that are booked or out, but one -/
def oth (a : Abs) (x : Option Nat) (w : Nat) : List Nat := (a.others x).filter fun h => (a.hire h).work == w && decide ((a.hire h).how < 2)
theorem oth_lt {a : Abs} {x : Option Nat} {w k h : Nat} (e : (oth a x w)[k]? = some h) : h < a.hires.length := by
  have h1 := List.mem_of_getElem? e
  unfold oth Kv321.Abs.others at h1
  exact List.mem_range.mp (List.mem_filter.mp (List.mem_filter.mp h1).1).1
theorem oth_len {a : Abs} {x : Option Nat} {w : Nat} : (oth a x w).length ≤ a.hires.length := by
  unfold oth Kv321.Abs.others
  have h1 := List.length_filter_le (fun h => (a.hire h).work == w && decide ((a.hire h).how < 2)) ((List.range a.hires.length).filter fun h => x != some h)
  have h2 := List.length_filter_le (fun h => x != some h) (List.range a.hires.length)
  rw [List.length_range] at h2
  omega
theorem lentTo_all {a : Abs} {x : Option Nat} {w n i : Nat} : lentTo a (oth a x w) n (oth a x w).length i = a.lent x w i n := by
  unfold lentTo Kv321.Abs.lent
  rw [List.take_length]
  unfold oth
  rw [List.filter_filter]
  congr 2
  refine List.filter_congr fun h _ => ?_
  unfold hasOn
  cases decide ((a.hire h).how < 2) <;> cases ((a.hire h).work == w) <;> cases decide ((a.hire h).from_ ≤ n) <;> cases decide (n < a.over (a.hire h)) <;> rfl
section
variable {K : PySem.W.Frag} {mg : Str → Option Value} {vs : List V} {H : Hp} {d : Dsc} {σ : L2.St} {te ta tb tl tw tn tx to ti : TE}
theorem rd_free_on (T : Txt K mg) (h : pr_free_on K vs H d) : Go (t_free_on K) (start N_free_on vs) H d.post := by
  obtain ⟨A, DD, b, a, w, n, x, rfl, R0, W, hw, rfl⟩ := h
  intro H1 e D q
  have R := R0.up e
  have hn := W.nH
  have hk := R.work hw
  have w5 := (W.wk w hw).1
  refine cps_asg (el_listD (ev_fldL (ev_works_at T R (ev_var rfl) (ev_var rfl) hw) (hk.loose T))) fun v H2 e2 hv => ?_
  obtain ⟨p, rfl, hp0, hp⟩ := hv
  rw [vns5 w5] at hp
  let F : Nat → Nat → Int := fun k i => (at5 (a.work w).loose i : Int) - (lentTo a (oth a x w) n k i : Int)
  have hp' : H2 p = some (.lst (lF5 (F 0))) := by
    rw [hp]
    refine congrArg (fun z => some (HO.lst z)) (lF5_congr fun i _ => ?_)
    show _ = _ - ((lentTo a (oth a x w) n 0 i : Nat) : Int)
    have e0 : lentTo a (oth a x w) n 0 i = 0 := rfl
    rw [e0]
    omega
  refine cps_for (Evl.s_forNL (ca_others_of (R.up e2) W (ev_var rfl) (ev_var rfl) (ev_var rfl)).eL
    (fun r k σ' H' => (∃ s5 s6, σ' = [some (.ref (A .lib)), some (.int (w : Nat)), some (.int (n : Nat)), some (.int (bI x)), some (.ref p), s5, s6]) ∧ Ex H1 H' ∧ H' p = some (.lst (lF5 (F k))) ∧ H' r = some (.lst ((oth a x w).map fun h => .ref (A (.hir h)))) ∧ r ≠ p)
    (fun r H3 hr e3 hl => ⟨⟨none, none, rfl⟩, e2.trans e3, e3 _ _ hp', hl, ne_of_none hp' hr |> Ne.symm⟩) (fun r k σ' H' _ p => SqL.of p.2.2.2.1) (fun r k y σ' H' hy ⟨⟨s5, s6, hσ⟩, e3, hc, hr, hne⟩ => ?_) fun r σ' H' ⟨⟨s5, s6, hσ⟩, e3, hc, _⟩ => ?_)
  · subst hσ
    have hk2 : k < (oth a x w).length := by
      have h1 := (List.getElem?_eq_some_iff.mp hy).1
      rw [List.length_map] at h1
      exact h1
    obtain ⟨h, eh⟩ : ∃ h, (oth a x w)[k]? = some h := ⟨_, List.getElem?_eq_getElem hk2⟩
    have hy' : ((oth a x w).map fun h => V.ref (A (.hir h)))[k]? = some y := hy
    rw [List.getElem?_map, eh] at hy'
    have ey := (Option.some.inj hy').symm
    subst ey
    have hh := oth_lt eh
    have hz := (R.hir hh).up e3
    have l5 := (W.hr h hh).2.2.2.1
    have hcut : ∀ (H' : Hp) (D' : Ends), Ex H1 H' → H' p = some (.lst (lF5 (F k))) → H' r = some (.lst ((oth a x w).map fun h => .ref (A (.hir h)))) → hasOn a (a.hire h) n = true →
        (∀ σ' H', ((∃ s5 s6, σ' = [some (.ref (A .lib)), some (.int (w : Nat)), some (.int (n : Nat)), some (.int (bI x)), some (.ref p), s5, s6]) ∧ Ex H1 H' ∧ H' p = some (.lst (lF5 (F (k + 1)))) ∧ H' r = some (.lst ((oth a x w).map fun h => .ref (A (.hir h)))) ∧ r ≠ p) → D'.nx σ' H') →
        tFor (iRng1 (tCons (tC (.int (5))) tNil)) (gName 6) (tAugS (tVar 4) (tVar 6) (tOp (rIxL K) (tFld K (tVar 5) "put") (tVar 6)) (rIxL K) (ipI fun i j => i - j) rSetL) D'
          [some (.ref (A .lib)), some (.int (w : Nat)), some (.int (n : Nat)), some (.int (bI x)), some (.ref p), some (.ref (A (.hir h))), s6] H' := by
      intro H' D' e3 hc hr hon hnx
      have ha : Evl.EvA (tCons (tC (.int 5)) tNil) [some (.ref (A .lib)), some (.int (w : Nat)), some (.int (n : Nat)), some (.int (bI x)), some (.ref p), some (.ref (A (.hir h))), s6] H' [.int 5] := Evl.ea_cons Evl.ev_c Evl.ea_nil
      refine Evl.s_forR1 ha (by decide) (fun j σ' H'' => (∃ s6, σ' = [some (.ref (A .lib)), some (.int (w : Nat)), some (.int (n : Nat)), some (.int (bI x)), some (.ref p), some (.ref (A (.hir h))), s6]) ∧ Ex H1 H'' ∧
          H'' p = some (.lst (lF5 fun i => if i < j then F k i - (at5 (a.hire h).loose i : Int) else F k i)) ∧ H'' r = some (.lst ((oth a x w).map fun h => .ref (A (.hir h))))) (fun H4 e4 => ⟨⟨_, rfl⟩, e3.trans e4, ?_, e4 _ _ hr⟩) (fun j σ' H'' hj ⟨⟨s6, hσ⟩, e4, hc4, hr4⟩ => ?_) fun σ' H'' ⟨⟨s6, hσ⟩, e4, hc4, hr4⟩ => ?_
      · rw [e4 _ _ hc]
        refine congrArg (fun z => some (HO.lst z)) (lF5_congr fun i _ => ?_)
        rw [if_neg (by omega)]
      · subst hσ
        have hz4 := (R.hir hh).up e4
        have hj5 : j < 5 := by omega
        refine s_augL hc4 (ev_var rfl) (ev_var rfl) (ev_ixD (ev_fldL (ev_var rfl) (hz4.put T)) (ev_var rfl) (atI_vns (by omega))) hj5 fun H5 e5 => ⟨⟨_, rfl⟩, Ex.mut (e4.trans e5) hp0, ?_, ?_⟩
        · rw [upd_same]
          refine congrArg (fun z => some (HO.lst z)) (lF5_congr fun i _ => ?_)
          by_cases h1 : i = j
          · subst h1
            rw [if_pos (show i = i from rfl), if_pos (show i < i + 1 by omega), if_neg (show ¬ i < i by omega)]
          · rw [if_neg h1]
            by_cases h2 : i < j
            · rw [if_pos h2, if_pos (by omega)]
            · rw [if_neg h2, if_neg (by omega)]
        · rw [upd_ne hne]
          exact e5 _ _ hr4
      · subst hσ
        refine hnx _ _ ⟨⟨_, _, rfl⟩, e4, ?_, hr4, hne⟩
        rw [hc4]
        refine congrArg (fun z => some (HO.lst z)) (lF5_congr fun i hi => ?_)
        rw [if_pos (show i < (5 : Int).toNat from hi)]
        show _ = _ - ((lentTo a (oth a x w) n (k + 1) i : Nat) : Int)
        rw [lentTo_yes eh hon]
        show (at5 (a.work w).loose i : Int) - (lentTo a (oth a x w) n k i : Int) - _ = _
        omega
    show tIfS _ _ _ _ _ H'
    refine cps_ifS (et_B (ca_has_on (R.up e3) hz (ev_var rfl) (ev_var rfl) (ev_var rfl))) (fun hb H3 e5 => ?_) fun hb H3 e5 => ?_
    · exact hcut H3 _ (e3.trans e5) (e5 _ _ hc) (e5 _ _ hr) hb fun σ' H' hh => hh
    · refine ⟨⟨_, _, rfl⟩, e3.trans e5, ?_, e5 _ _ hr, hne⟩
      rw [e5 _ _ hc]
      refine congrArg (fun z => some (HO.lst z)) (lF5_congr fun i _ => ?_)
      show _ - ((lentTo a (oth a x w) n k i : Nat) : Int) = _ - ((lentTo a (oth a x w) n (k + 1) i : Nat) : Int)
      rw [lentTo_no eh hb]
  · subst hσ
    show tRet (tVar 4) D _ H'
    refine cps_ret (ev_var (v := .ref p) rfl) fun v H3 e4 hv => q v H3 ⟨e3.trans e4, p, hv, hp0, ?_⟩
    rw [e4 _ _ hc, List.length_map]
    refine congrArg (fun z => some (HO.lst z)) (lF5_congr fun i _ => ?_)
    show _ - ((lentTo a (oth a x w) n (oth a x w).length i : Nat) : Int) = _
    rw [lentTo_all]
    rfl
theorem ca_free_on {w n : Nat} {x : Option Nat} {A D : Tag → Addr} {b : Bool} {a : Abs} (R : Rep K H A D b a) (W : Wf a) (hw : w < a.works.length) (hl : Ev tl σ H (dV (.ref (A .lib)))) (h1 : Ev tw σ H (dV (.int (w : Nat)))) (h2 : Ev tn σ H (dV (.int (n : Nat)))) (h3 : Ev tx σ H (dV (.int (bI x)))) :
    Ev (tCall (sp_free_on K) [] E0 (tCons tl (tCons tw (tCons tn (tCons tx tNil))))) σ H (dN (lF5 fun i => freeI a x w i n)) :=
  ev_call (vs := [.ref (A .lib), .int (w : Nat), .int (n : Nat), .int (bI x)]) (ea_cons hl (ea_cons h1 (ea_cons h2 (ea_cons h3 ea_nil)))) fun H1 e => ⟨A, D, b, a, w, n, x, rfl, R.up e, W, hw, rfl⟩
theorem rd_least_free (T : Txt K mg) (h : pr_least_free K vs H d) : Go (t_least_free K) (start N_least_free vs) H d.post := by
  obtain ⟨A, DD, b, a, w, f, e, x, rfl, R0, W, hw, hfe, he, rfl⟩ := h
  intro H1 e1 D q
  have R := R0.up e1
  refine cps_asg (ca_free_on R W hw (ev_var rfl) (ev_var rfl) (ev_var rfl) (ev_var rfl)) fun v H2 e2 hv => ?_
  obtain ⟨p, rfl, hp0, hp⟩ := hv
  have ha : Evl.EvA (tCons (tOp rAddI (tVar 2) (tC (.int 1))) (tCons (tVar 3) tNil)) ((start N_least_free [V.ref (A .lib), .int (w : Nat), .int (f : Nat), .int (e : Nat), .int (bI x)]).set 5 (some (.ref p))) H2 [.int ((f : Int) + 1), .int (e : Nat)] :=
    Evl.ea_cons (ev_I (ev_var rfl) ev_c).e (Evl.ea_cons (ev_var rfl).e Evl.ea_nil)
  refine cps_for (Evl.s_forR2 ha (by omega) (fun k σ' H' => (∃ s6 s7 s8, σ' = [some (.ref (A .lib)), some (.int (w : Nat)), some (.int (f : Nat)), some (.int (e : Nat)), some (.int (bI x)), some (.ref p), s6, s7, s8]) ∧ Ex H1 H' ∧ H' p = some (.lst (lF5 fun i => leastI a x w i f k)))
    (fun H3 e3 => ⟨⟨none, none, none, rfl⟩, e2.trans e3, e3 _ _ hp⟩) (fun k σ' H' hk ⟨⟨s6, s7, s8, hσ⟩, e3, hc⟩ => ?_) fun σ' H' ⟨⟨s6, s7, s8, hσ⟩, e3, hc⟩ => ?_)
  · subst hσ
    refine cps_asg (ca_free_on (n := f + 1 + k) (x := x) (R.up e3) W hw (ev_var rfl) (ev_var rfl) ((ev_var rfl).is (congrArg V.int (show (f : Int) + 1 + (k : Int) = ((f + 1 + k : Nat) : Int) by omega))) (ev_var rfl)) fun v H4 e4 hv => ?_
    obtain ⟨r, rfl, hr0, hr⟩ := hv
    have hrp : r ≠ p := Ne.symm (fresh_ne hr0 hc)
    have ha2 : Evl.EvA (tCons (tC (.int 5)) tNil) [some (.ref (A .lib)), some (.int (w : Nat)), some (.int (f : Nat)), some (.int (e : Nat)), some (.int (bI x)), some (.ref p), some (.int ((f : Int) + 1 + (k : Int))), some (.ref r), s8] H4 [.int 5] := Evl.ea_cons Evl.ev_c Evl.ea_nil
    refine Evl.s_forR1 ha2 (by decide) (fun j σ' H' => (∃ s8, σ' = [some (.ref (A .lib)), some (.int (w : Nat)), some (.int (f : Nat)), some (.int (e : Nat)), some (.int (bI x)), some (.ref p), some (.int ((f : Int) + 1 + (k : Int))), some (.ref r), s8]) ∧ Ex H1 H' ∧
      H' p = some (.lst (lF5 fun i => if i < j then leastI a x w i f (k + 1) else leastI a x w i f k)) ∧ H' r = some (.lst (lF5 fun i => freeI a x w i (f + 1 + k)))) (fun H5 e5 => ⟨⟨_, rfl⟩, (e3.trans e4).trans e5, ?_, e5 _ _ hr⟩) (fun j σ' H' hj ⟨⟨s8, hσ⟩, e5, hc5, hr5⟩ => ?_) fun σ' H' ⟨⟨s8, hσ⟩, e5, hc5, hr5⟩ => ?_
    · rw [e5 _ _ (e4 _ _ hc)]
      refine congrArg (fun z => some (HO.lst z)) (lF5_congr fun i _ => ?_)
      rw [if_neg (by omega)]
    · subst hσ
      have hj5 : j < 5 := by omega
      refine s_setF (y := leastI a x w j f (k + 1)) hc5 (ev_var rfl) (ev_var rfl) ((ev_min2 (ev_ixL (ev_var rfl) (ev_var rfl) (SqL.of hc5) (atI_lF5 hj5)) (ev_ixL (ev_var rfl) (ev_var rfl) (SqL.of hr5) (atI_lF5 hj5))).is (congrArg V.int (by rw [if_neg (Nat.lt_irrefl j)] <;> rfl))) hj5 fun H6 e6 => ⟨⟨_, rfl⟩, Ex.mut (e5.trans e6) hp0, ?_, ?_⟩
      · rw [upd_same]
        refine congrArg (fun z => some (HO.lst z)) (lF5_congr fun i _ => ?_)
        by_cases h1 : i = j
        · subst h1
          rw [if_pos (show i = i from rfl), if_pos (show i < i + 1 by omega)]

        · rw [if_neg h1]
          by_cases h2 : i < j
          · rw [if_pos h2, if_pos (by omega)]
          · rw [if_neg h2, if_neg (by omega)]
      · rw [upd_ne hrp]
        exact e6 _ _ hr5
    · subst hσ
      refine ⟨⟨_, _, _, rfl⟩, e5, ?_⟩
      rw [hc5]
      refine congrArg (fun z => some (HO.lst z)) (lF5_congr fun i hi => ?_)
      rw [if_pos (show i < (5 : Int).toNat from hi)]
  · subst hσ
    show tRet (tVar 5) D _ H'
    refine cps_ret (ev_var (v := .ref p) rfl) fun v H3 e4 hv => q v H3 ⟨e3.trans e4, p, hv, hp0, ?_⟩
    rw [e4 _ _ hc, show (((e : Nat) : Int) - ((f : Int) + 1)).toNat = e - (f + 1) by omega]
theorem ca_least_free {te2 : TE} {w f e : Nat} {x : Option Nat} {A D : Tag → Addr} {b : Bool} {a : Abs} (R : Rep K H A D b a) (W : Wf a) (hw : w < a.works.length) (hfe : f < e) (he : e ≤ 20000) (hl : Ev tl σ H (dV (.ref (A .lib)))) (h1 : Ev tw σ H (dV (.int (w : Nat)))) (h2 : Ev tn σ H (dV (.int (f : Nat)))) (h3 : Ev te2 σ H (dV (.int (e : Nat)))) (h4 : Ev tx σ H (dV (.int (bI x)))) :
    Ev (tCall (sp_least_free K) [] E0 (tCons tl (tCons tw (tCons tn (tCons te2 (tCons tx tNil)))))) σ H (dN (lF5 fun i => leastI a x w i f (e - (f + 1)))) :=
  ev_call (vs := [.ref (A .lib), .int (w : Nat), .int (f : Nat), .int (e : Nat), .int (bI x)]) (ea_cons hl (ea_cons h1 (ea_cons h2 (ea_cons h3 (ea_cons h4 ea_nil))))) fun H1 e1 => ⟨A, D, b, a, w, f, e, x, rfl, R.up e1, W, hw, hfe, he, rfl⟩
end
end Pl

/-! ### which sets would do -/
namespace Pl
open PySem PySem.Spec PyProof.Rows L2
open Kv321 (Abs Hire Set_ at5 map5 five okDesks okDays)
theorem leastI_le {a : Abs} {x : Option Nat} {w i f : Nat} {c : Int} : ∀ k, c ≤ leastI a x w i f k ↔ ∀ j, j ≤ k → c ≤ freeI a x w i (f + j)
  | 0 => ⟨fun h j hj => by
      have e : j = 0 := by omega
      subst e
      exact h, fun h => h 0 (Nat.le_refl 0)⟩
  | k + 1 => by
    have ih := leastI_le (a := a) (x := x) (w := w) (i := i) (f := f) (c := c) k
    have e1 : f + 1 + k = f + (k + 1) := by omega
    show c ≤ (if freeI a x w i (f + 1 + k) < leastI a x w i f k then freeI a x w i (f + 1 + k) else leastI a x w i f k) ↔ _
    rw [e1]
    constructor
    · intro h j hj
      by_cases hc : freeI a x w i (f + (k + 1)) < leastI a x w i f k
      · rw [if_pos hc] at h
        by_cases e : j = k + 1
        · rw [e]
          exact h
        · exact ih.mp (by omega) j (by omega)
      · rw [if_neg hc] at h
        by_cases e : j = k + 1
        · rw [e]
          omega
        · exact ih.mp h j (by omega)
    · intro h
      have h1 := h (k + 1) (Nat.le_refl _)
      have h2 := ih.mpr fun j hj => h j (by omega)
      by_cases hc : freeI a x w i (f + (k + 1)) < leastI a x w i f k
      · rw [if_pos hc]
        exact h1
      · rw [if_neg hc]
        exact h2
theorem free_nat {a : Abs} {x : Option Nat} {w i d c : Nat} (hc : 0 < c) : (c : Int) ≤ freeI a x w i d ↔ c ≤ a.looseFree x w i d := by
  unfold freeI Kv321.Abs.looseFree
  omega
theorem enough_do {a : Abs} {x : Option Nat} {w f n : Nat} {l : List Nat} (hn : 1 ≤ n) : enoughI (fun i => (at5 l i : Int)) (fun i => leastI a x w i f (n + a.turn - 1)) = a.looseDo x w l f n := by
  unfold enoughI Kv321.Abs.looseDo
  refine List.all_congr rfl fun i => ?_
  by_cases h0 : at5 l i = 0
  · simp [h0]
  · have h1 : ¬ (at5 l i : Int) = 0 := by omega
    have h2 : (at5 l i == 0) = false := beq_eq_false_iff_ne.mpr h0
    rw [decide_eq_false h1, h2, Bool.false_or, Bool.false_or]
    rw [Bool.eq_iff_iff, decide_eq_true_iff, leastI_le, List.all_eq_true]
    constructor
    · intro h j hj
      have hj' := List.mem_range.mp hj
      exact decide_eq_true ((free_nat (by omega)).mp (h j (by omega)))
    · intro h j hj
      exact (free_nat (by omega)).mpr (of_decide_eq_true (h j (List.mem_range.mpr (by omega))))
theorem kitFree_set {a : Abs} {x : Option Nat} {s f n : Nat} : kitFree a x s f (f + n + a.turn) = a.setFree x s f n := rfl
section
variable {K : PySem.W.Frag} {mg : Str → Option Value} {vs : List V} {H : Hp} {d : Dsc} {σ : L2.St} {te ta tb tl tw tn tx to ti ts tf : TE}
theorem KitOk.of {a : Abs} (W : Wf a) {s : Nat} (h : s < a.sets.length) : KitOk (a.set s) := ⟨(W.st s h).2.1, (W.st s h).2.2.1, (W.st s h).2.2.2.1⟩
theorem ca_there_of {x : Addr} {k : Set_} (hk : Kit K H x k) (h5 : k.strings.length = 5) (g5 : k.gone.length = 5) (h : Ev te σ H (dV (.ref x))) : Ev (tCall (sp_there_of K) [] E0 (tCons te tNil)) σ H (dN (lF5 fun i => (at5 k.strings i : Int) - (at5 k.gone i : Int))) :=
  ev_call (vs := [.ref x]) (ea_cons h ea_nil) fun H1 e => ⟨x, k, rfl, hk.up e, h5, g5, rfl⟩
theorem rd_lack_of (T : Txt K mg) (h : pr_lack_of K vs H d) : Go (t_lack_of K) (start N_lack_of vs) H d.post := by
  obtain ⟨x, k, p, l, rfl, hk, ok, hp, l5, rfl⟩ := h
  refine go_asgD (ca_there_of hk ok.s5 ok.g5 (ev_var rfl)) fun v H1 e1 hv => ?_
  obtain ⟨q, rfl, hq0, hq⟩ := hv
  refine go_ret (Ev.isN (ev_lc5 (fun i => .int ((at5 l i - (at5 k.strings i - at5 k.gone i) : Nat) : Int)) ev_c fun i hi => ?_) ?_)
  · refine (ev_max2 ev_c (ev_I (ev_ixL (ev_var rfl) (ev_var rfl) (SqL.of (e1 _ _ hp)) (atI_vns (by omega))) (ev_ixL (ev_var rfl) (ev_var rfl) (SqL.of hq) (atI_lF5 hi)))).is (congrArg V.int ?_)
    have := ok.le i hi
    split <;> omega
  · unfold lackN
    rw [vns_map5]
    rfl
theorem ca_lack_of {x p : Addr} {k : Set_} {l : List Nat} (hk : Kit K H x k) (ok : KitOk k) (hp : H p = some (.lst (vns l))) (l5 : l.length = 5) (h1 : Ev te σ H (dV (.ref x))) (h2 : Ev ta σ H (dV (.ref p))) : Ev (tCall (sp_lack_of K) [] E0 (tCons te (tCons ta tNil))) σ H (dN (vns (lackN k l))) :=
  ev_call (vs := [.ref x, .ref p]) (ea_cons h1 (ea_cons h2 ea_nil)) fun H1 e => ⟨x, k, p, l, rfl, hk.up e, ok, e _ _ hp, l5, rfl⟩
theorem ca_lack_ofD {x : Addr} {k : Set_} {l : List Nat} (hk : Kit K H x k) (ok : KitOk k) (l5 : l.length = 5) (h1 : Ev te σ H (dV (.ref x))) (h2 : Ev ta σ H (dL (vns l))) : Ev (tCall (sp_lack_of K) [] E0 (tCons te (tCons ta tNil))) σ H (dN (vns (lackN k l))) :=
  ev_callD (ds := [dV (.ref x), dL (vns l)]) (ea_cons h1 (ea_cons h2 ea_nil)) fun vs H1 e hi => match vs, hi with
    | [v1, v2], ⟨i1, ⟨p, i2, i3⟩, _⟩ => ⟨x, k, p, l, by rw [show v1 = .ref x from i1, i2], hk.up e, ok, i3, l5, rfl⟩
theorem rd_extra_of (T : Txt K mg) (h : pr_extra_of K vs H d) : Go (t_extra_of K) (start N_extra_of vs) H d.post := by
  obtain ⟨x, k, p, l, rfl, hk, ok, hp, l5, rfl⟩ := h
  refine go_asgD (ca_there_of hk ok.s5 ok.g5 (ev_var rfl)) fun v H1 e1 hv => ?_
  obtain ⟨q, rfl, hq0, hq⟩ := hv
  refine go_ret (Ev.is (ev_sum (ns := (map5 fun i => (at5 k.strings i - at5 k.gone i) - at5 l i).map fun (n : Nat) => (n : Int)) (Ev.isL (Ev.L (ev_lc5 (fun i => .int ((at5 k.strings i - at5 k.gone i - at5 l i : Nat) : Int)) ev_c fun i hi => ?_)) ?_)) (congrArg V.int (sum_cast _)))
  · refine (ev_max2 ev_c (ev_I (ev_ixL (ev_var rfl) (ev_var rfl) (SqL.of hq) (atI_lF5 hi)) (ev_ixL (ev_var rfl) (ev_var rfl) (SqL.of (e1 _ _ hp)) (atI_vns (by omega))))).is (congrArg V.int ?_)
    have := ok.le i hi
    split <;> omega
  · unfold map5
    rw [List.map_map, List.map_map]
    rfl
theorem ca_extra_of {x p : Addr} {k : Set_} {l : List Nat} (hk : Kit K H x k) (ok : KitOk k) (hp : H p = some (.lst (vns l))) (l5 : l.length = 5) (h1 : Ev te σ H (dV (.ref x))) (h2 : Ev ta σ H (dV (.ref p))) :
    Ev (tCall (sp_extra_of K) [] E0 (tCons te (tCons ta tNil))) σ H (dV (.int (((map5 fun i => (at5 k.strings i - at5 k.gone i) - at5 l i).sum : Nat) : Int))) :=
  ev_call (vs := [.ref x, .ref p]) (ea_cons h1 (ea_cons h2 ea_nil)) fun H1 e => ⟨x, k, p, l, rfl, hk.up e, ok, e _ _ hp, l5, rfl⟩
theorem rd_is_kit_free (T : Txt K mg) (h : pr_is_kit_free K vs H d) : Go (t_is_kit_free K) (start N_is_kit_free vs) H d.post := by
  obtain ⟨A, DD, b, a, s, f, e, x, rfl, R, W, rfl⟩ := h
  have hW := ew_enum (K := K) (ev_hirings (σ := start N_is_kit_free [.ref (A .lib), .int (s : Nat), .int (f : Nat), .int (e : Nat), .int (bI x)]) (ta := tVar 0) T R (ev_var rfl))
  rw [refs_len] at hW
  let c : Nat → Bool := fun h => (a.hire h).set == s && (decide ((a.hire h).how < 2) && (decide ((a.hire h).from_ < e) && decide (f < a.over (a.hire h))))
  refine go_for hW (fun k σ' => (∃ s5 s6, σ' = [some (.ref (A .lib)), some (.int (s : Nat)), some (.int (f : Nat)), some (.int (e : Nat)), some (.int (bI x)), s5, s6]) ∧ ∀ j, j < k → (x != some j) = true → c j = false)
    (fun k σ' => (σ'.set 5 (some (.int (k : Nat)))).set 6 (some (.ref (A (.hir k))))) ⟨⟨none, none, rfl⟩, fun j hj => by omega⟩ (fun k σ' H1 y H2 Qk e1 hk hS hy q => ?_) (fun k σ' hk ⟨⟨s5, s6, hσ⟩, hS⟩ => ?_) fun σ' ⟨⟨s5, s6, hσ⟩, hS⟩ => ?_
  · exact tg_pair hy rfl (by unfold refs; rw [List.getElem?_map, List.getElem?_range hk]; rfl) q
  · subst hσ
    have hz := R.hir hk
    have ec : (!decide (((k : Nat) : Int) = bI x) && (decide (((a.hire k).set : Int) = (s : Int)) && decide ((a.hire k).how < 2))) = ((x != some k) && ((a.hire k).set == s && decide ((a.hire k).how < 2))) := by
      rw [bI_ne, beqN]
    refine gn_if (EvT.is (et_and (b := decide (((a.hire k).set : Int) = (s : Int)) && decide ((a.hire k).how < 2)) (et_test (ev_ne (ev_var rfl) (ev_var rfl))) (fun _ => et_and (et_test (ev_eq (ev_fld (ev_var rfl) (hz.kit T)) (ev_var rfl))) (fun _ => et_B (ca_is_on hz (ev_var rfl))))) ec) (fun hb => ?_) fun hb => ?_
    · obtain ⟨h1, h2⟩ := Bool.and_eq_true_iff.mp hb
      obtain ⟨h2, h3⟩ := Bool.and_eq_true_iff.mp h2
      refine gn_if (et_and (et_test (ev_I (ev_fld (ev_var rfl) (hz.first T)) (ev_var rfl))) (fun _ => et_test (ev_I (ev_var rfl) (ca_over_day R hz (ev_var rfl) (ev_var rfl))))) (fun hc => ?_) fun hc => ?_
      · refine Go.n (go_ret (ev_c.is (congrArg V.bl ?_)))
        obtain ⟨h4, h5⟩ := Bool.and_eq_true_iff.mp hc
        have h4' := of_decide_eq_true h4
        have h5' := of_decide_eq_true h5
        symm
        unfold kitFree
        rw [List.all_eq_false]
        refine ⟨k, List.mem_filter.mpr ⟨List.mem_range.mpr hk, h1⟩, ?_⟩
        rw [h2, h3, decide_eq_true (show (a.hire k).from_ < e by omega), decide_eq_true (show f < a.over (a.hire k) by omega)]
        decide
      · refine gn_next ⟨⟨_, _, rfl⟩, fun j hj hx => ?_⟩
        by_cases ej : j = k
        · subst ej
          show ((a.hire j).set == s && (decide ((a.hire j).how < 2) && (decide ((a.hire j).from_ < e) && decide (f < a.over (a.hire j))))) = false
          rw [h2, h3, Bool.true_and, Bool.true_and]
          have e1 : decide ((a.hire j).from_ < e) = decide (((a.hire j).from_ : Int) < (e : Int)) := decide_eq_decide.mpr (by omega)
          have e2 : decide (f < a.over (a.hire j)) = decide ((f : Int) < (a.over (a.hire j) : Int)) := decide_eq_decide.mpr (by omega)
          rw [e1, e2]
          exact hc
        · exact hS j (by omega) hx
    · refine gn_next ⟨⟨_, _, rfl⟩, fun j hj hx => ?_⟩
      by_cases ej : j = k
      · subst ej
        rw [hx, Bool.true_and] at hb
        show ((a.hire j).set == s && (decide ((a.hire j).how < 2) && (decide ((a.hire j).from_ < e) && decide (f < a.over (a.hire j))))) = false
        rw [← Bool.and_assoc, hb, Bool.false_and]
      · exact hS j (by omega) hx
  · subst hσ
    refine go_ret (ev_c.is (congrArg V.bl ?_))
    symm
    unfold kitFree
    rw [List.all_eq_true]
    intro h hh
    obtain ⟨h1, h2⟩ := List.mem_filter.mp hh
    have := hS h (List.mem_range.mp h1) h2
    show (!(c h)) = true
    rw [this]
    rfl
theorem ca_is_kit_free {s f e : Nat} {x : Option Nat} {A D : Tag → Addr} {b : Bool} {a : Abs} (R : Rep K H A D b a) (W : Wf a) (hl : Ev tl σ H (dV (.ref (A .lib)))) (h1 : Ev ts σ H (dV (.int (s : Nat)))) (h2 : Ev tf σ H (dV (.int (f : Nat)))) (h3 : Ev te σ H (dV (.int (e : Nat)))) (h4 : Ev tx σ H (dV (.int (bI x)))) :
    Ev (tCall (sp_is_kit_free K) [] E0 (tCons tl (tCons ts (tCons tf (tCons te (tCons tx tNil)))))) σ H (dV (.bl (kitFree a x s f e))) :=
  ev_call (vs := [.ref (A .lib), .int (s : Nat), .int (f : Nat), .int (e : Nat), .int (bI x)]) (ea_cons hl (ea_cons h1 (ea_cons h2 (ea_cons h3 (ea_cons h4 ea_nil))))) fun H1 e1 => ⟨A, D, b, a, s, f, e, x, rfl, R.up e1, W, rfl⟩
theorem ca_end_of {f n : Nat} {A D : Tag → Addr} {b : Bool} {a : Abs} (R : Rep K H A D b a) (hl : Ev tl σ H (dV (.ref (A .lib)))) (h1 : Ev tf σ H (dV (.int (f : Nat)))) (h2 : Ev tn σ H (dV (.int (n : Nat)))) :
    Ev (tCall (sp_end_of K) [] E0 (tCons tl (tCons tf (tCons tn tNil)))) σ H (dV (.int ((f + n + a.turn : Nat) : Int))) :=
  ev_call (vs := [.ref (A .lib), .int (f : Nat), .int (n : Nat)]) (ea_cons hl (ea_cons h1 (ea_cons h2 ea_nil))) fun H1 e1 => ⟨A, D, b, a, f, n, rfl, R.up e1, rfl⟩
theorem ca_are_enough {f g : Nat → Int} (h1 : Ev ta σ H (dL (lF5 f))) (h2 : Ev tb σ H (dL (lF5 g))) : Ev (tCall (sp_are_enough K) [] E0 (tCons ta (tCons tb tNil))) σ H (dV (.bl (enoughI f g))) :=
  ev_callD (ds := [dL (lF5 f), dL (lF5 g)]) (ea_cons h1 (ea_cons h2 ea_nil)) fun vs H1 e hi => match vs, hi with
    | [v1, v2], ⟨⟨p, i1, i2⟩, ⟨q, i3, i4⟩, _⟩ => ⟨p, q, f, g, by rw [i1, i3], i2, i4, rfl⟩
theorem rd_does (T : Txt K mg) (h : pr_does K vs H d) : Go (t_does K) (start N_does vs) H d.post := by
  obtain ⟨A, DD, b, a, s, x, z, q, x', rfl, R, W, hs, hz, oz, hq, rfl⟩ := h
  have hk := R.kit hs
  have ok := KitOk.of W hs
  refine go_asg (ev_kits_at T R (ev_var rfl) (ev_var rfl) hs) ?_
  refine go_if (et_or (et_test (ev_ne (ev_fld (ev_var rfl) (hk.work T)) (ev_fld (ev_var rfl) (hz.work T)))) (fun _ => et_test (ev_neNil (ev_fldL (ev_var rfl) (hk.missing T))))) (fun hb => ?_) fun hb => ?_
  · refine go_ret (ev_c.is (congrArg V.bl ?_))
    symm
    unfold Kv321.Abs.does_
    rw [beqN]
    rw [Bool.or_eq_true, Bool.not_eq_true'] at hb
    rcases hb with hb | hb
    · rw [hb, Bool.false_and]
    · have e1 : ((a.set s).missing == []) = false := by
        cases hm : (a.set s).missing with
        | nil =>
          rw [hm] at hb
          cases hb
        | cons y r => rfl
      rw [e1, Bool.false_and, Bool.and_false]
  · rw [Bool.or_eq_false_iff, Bool.not_eq_false'] at hb
    obtain ⟨hb1, hb2⟩ := hb
    have e1 : ((a.set s).missing == []) = true := by
      cases hm : (a.set s).missing with
      | nil => rfl
      | cons y r =>
        rw [hm] at hb2
        cases hb2
    have e0 : a.does_ x' z.work z.from_ z.days z.desks s = (a.setFree x' s z.from_ z.days && a.looseDo x' z.work (a.lacks s z.desks) z.from_ z.days) := by
      unfold Kv321.Abs.does_
      rw [beqN, hb1, e1, Bool.true_and, Bool.true_and]
    rw [e0]
    refine go_if (et_not (et_B (ca_is_kit_free (x := x') R W (ev_var rfl) (ev_var rfl) (ev_fld (ev_var rfl) (hz.first T)) (ca_end_of R (ev_var rfl) (ev_fld (ev_var rfl) (hz.first T)) (ev_fld (ev_var rfl) (hz.spell T))) (ev_var rfl)))) (fun hb => ?_) fun hb => ?_
    · refine go_ret (ev_c.is (congrArg V.bl ?_))
      rw [Bool.not_eq_true', kitFree_set] at hb
      rw [hb, Bool.false_and]
    · rw [Bool.not_eq_false', kitFree_set] at hb
      refine go_ret ((ca_are_enough (Ev.isL (Ev.L (ca_lack_ofD hk ok oz.ds (ev_var rfl) (ev_fldL (ev_var rfl) (hz.desks T)))) (vns5 (map5_len _))) ((ev_var rfl).asL hq)).is (congrArg V.bl ?_))
      rw [hb, Bool.true_and]
      exact enough_do (l := a.lacks s z.desks) oz.dy
theorem ca_does {s : Nat} {x : Addr} {z : Hire} {x' : Option Nat} {A D : Tag → Addr} {b : Bool} {a : Abs} (R : Rep K H A D b a) (W : Wf a) (hs : s < a.sets.length) (hz : Hir K H x z) (oz : HirOk a z) (hq : Ev tf σ H (dL (lF5 fun i => leastI a x' z.work i z.from_ (z.days + a.turn - 1)))) (hl : Ev tl σ H (dV (.ref (A .lib)))) (h1 : Ev ts σ H (dV (.int (s : Nat)))) (h2 : Ev te σ H (dV (.ref x))) (h4 : Ev tx σ H (dV (.int (bI x')))) :
    Ev (tCall (sp_does K) [] E0 (tCons tl (tCons ts (tCons te (tCons tf (tCons tx tNil)))))) σ H (dV (.bl (a.does_ x' z.work z.from_ z.days z.desks s))) :=
  ev_callD (ds := [dV (.ref (A .lib)), dV (.int (s : Nat)), dV (.ref x), dL (lF5 fun i => leastI a x' z.work i z.from_ (z.days + a.turn - 1)), dV (.int (bI x'))]) (ea_cons hl (ea_cons h1 (ea_cons h2 (ea_cons hq (ea_cons h4 ea_nil))))) fun vs H1 e hi => match vs, hi with
    | [v1, v2, v3, v4, v5], ⟨i1, i2, i3, ⟨q, i4, i5⟩, i6, _⟩ => ⟨A, D, b, a, s, x, z, q, x', by rw [show v1 = _ from i1, show v2 = _ from i2, show v3 = _ from i3, i4, show v5 = _ from i6], R.up e, W, hs, hz.up e, oz, i5, rfl⟩
theorem rd_free_for (T : Txt K mg) (h : pr_free_for K vs H d) : Go (t_free_for K) (start N_free_for vs) H d.post := by
  obtain ⟨A, DD, b, a, x, z, x', rfl, R, W, hz, oz, rfl⟩ := h
  have h1 := oz.dy
  have h2 := oz.en
  have h3 := W.tn
  refine go_ret (Ev.isN (ca_least_free (x := x') R W oz.wk (show z.from_ < z.from_ + z.days + a.turn by omega) (by omega) (ev_var rfl) (ev_fld (ev_var rfl) (hz.work T)) (ev_fld (ev_var rfl) (hz.first T)) (ca_end_of R (ev_var rfl) (ev_fld (ev_var rfl) (hz.first T)) (ev_fld (ev_var rfl) (hz.spell T))) (ev_var rfl)) ?_)
  rw [show z.from_ + z.days + a.turn - (z.from_ + 1) = z.days + a.turn - 1 by omega]
theorem ca_free_for {x : Addr} {z : Hire} {x' : Option Nat} {A D : Tag → Addr} {b : Bool} {a : Abs} (R : Rep K H A D b a) (W : Wf a) (hz : Hir K H x z) (oz : HirOk a z) (hl : Ev tl σ H (dV (.ref (A .lib)))) (h2 : Ev te σ H (dV (.ref x))) (h4 : Ev tx σ H (dV (.int (bI x')))) :
    Ev (tCall (sp_free_for K) [] E0 (tCons tl (tCons te (tCons tx tNil)))) σ H (dN (lF5 fun i => leastI a x' z.work i z.from_ (z.days + a.turn - 1))) :=
  ev_call (vs := [.ref (A .lib), .ref x, .int (bI x')]) (ea_cons hl (ea_cons h2 (ea_cons h4 ea_nil))) fun H1 e => ⟨A, D, b, a, x, z, x', rfl, R.up e, W, hz.up e, oz, rfl⟩
theorem rd_that_do (T : Txt K mg) (h : pr_that_do K vs H d) : Go (t_that_do K) (start N_that_do vs) H d.post := by
  obtain ⟨A, DD, b, a, x, z, x', rfl, R, W, hz, oz, rfl⟩ := h
  have hn := W.nS
  refine go_asgD (ca_free_for R W hz oz (ev_var rfl) (ev_var rfl) (ev_var rfl)) fun v H1 e1 hv => ?_
  obtain ⟨q, rfl, hq0, hq⟩ := hv
  have R1 := R.up e1
  have hz1 := hz.up e1
  refine go_ret (Ev.isN (ev_lcR (fun s => a.does_ x' z.work z.from_ z.days z.desks s) (fun s => .int (s : Nat)) (ev_kits_len T R1 (ev_var rfl)) (by omega) (fun s hs => et_B (ca_does R1 W (by omega) hz1 oz ((ev_var rfl).asL hq) (ev_var rfl) (ev_var rfl) (ev_var rfl) (ev_var rfl))) (fun s hs _ => ev_var rfl)) ?_)
  rw [Int.toNat_natCast]
  unfold vns
  rw [List.map_map]
  rfl
theorem ca_that_do {x : Addr} {z : Hire} {x' : Option Nat} {A D : Tag → Addr} {b : Bool} {a : Abs} (R : Rep K H A D b a) (W : Wf a) (hz : Hir K H x z) (oz : HirOk a z) (hl : Ev tl σ H (dV (.ref (A .lib)))) (h2 : Ev te σ H (dV (.ref x))) (h4 : Ev tx σ H (dV (.int (bI x')))) :
    Ev (tCall (sp_that_do K) [] E0 (tCons tl (tCons te (tCons tx tNil)))) σ H (dN (vns ((List.range a.sets.length).filter (a.does_ x' z.work z.from_ z.days z.desks)))) :=
  ev_call (vs := [.ref (A .lib), .ref x, .int (bI x')]) (ea_cons hl (ea_cons h2 (ea_cons h4 ea_nil))) fun H1 e => ⟨A, D, b, a, x, z, x', rfl, R.up e, W, hz.up e, oz, rfl⟩
theorem rd_rank_of (T : Txt K mg) (h : pr_rank_of K vs H d) : Go (t_rank_of K) (start N_rank_of vs) H d.post := by
  obtain ⟨A, DD, b, a, s, p, l, rfl, R, W, hs, hp, l5, rfl⟩ := h
  have hk := R.kit hs
  have ok := KitOk.of W hs
  refine go_asg (ev_kits_at T R (ev_var rfl) (ev_var rfl) hs) (go_ret (eu_tup (vs := (rankI a l s).map .int) (ea_cons ?_ (ea_cons ?_ (ea_cons (ev_var rfl) ea_nil))) (by show 3 ≤ 100000; decide)))
  · exact (ev_sum (ns := (lackN (a.set s) l).map fun (n : Nat) => (n : Int)) (ca_lack_of hk ok hp l5 (ev_var rfl) (ev_var rfl)).L).is (congrArg V.int (sum_cast _))
  · exact ca_extra_of hk ok hp l5 (ev_var rfl) (ev_var rfl)
theorem ca_rank_of {s : Nat} {p : Addr} {l : List Nat} {A D : Tag → Addr} {b : Bool} {a : Abs} (R : Rep K H A D b a) (W : Wf a) (hs : s < a.sets.length) (hp : H p = some (.lst (vns l))) (l5 : l.length = 5) (hl : Ev tl σ H (dV (.ref (A .lib)))) (h2 : Ev ts σ H (dV (.int (s : Nat)))) (h4 : Ev ta σ H (dV (.ref p))) :
    Ev (tCall (sp_rank_of K) [] E0 (tCons tl (tCons ts (tCons ta tNil)))) σ H (dT ((rankI a l s).map .int)) :=
  ev_call (vs := [.ref (A .lib), .int (s : Nat), .ref p]) (ea_cons hl (ea_cons h2 (ea_cons h4 ea_nil))) fun H1 e => ⟨A, D, b, a, s, p, l, rfl, R.up e, W, hs, e _ _ hp, l5, rfl⟩
theorem tups_of {G : Hp} : ∀ {nss : List (List Int)} {ts : List V}, Iss (nss.map fun ns => dT (ns.map V.int)) G ts H → TupsAt H ts nss
  | [], [], _ => .nil
  | [], _ :: _, h => h.elim
  | _ :: _, [], h => h.elim
  | ns :: nss, v :: ts, h => .cons h.1 (tups_of h.2)
theorem ev_minT {p : Addr} {ts : List V} {x : List Int} {xs : List (List Int)} (ha : Ev ta σ H (dV (.ref p))) (hp : H p = some (.lst ts)) (ht : TupsAt H ts (x :: xs)) : Ev (tCB (rMinT K) (tCons ta tNil)) σ H (dT ((minL x xs).map V.int)) := fun H1 e Q q =>
  ha H1 e _ fun v H2 e2 hv => by
    subst hv
    have e12 := e.trans e2
    exact ⟨p, ts, x, xs, rfl, SqL.of (e12 _ _ hp), Paired.mapP ht (fun v ns ⟨t, h1, h2⟩ => ⟨t, h1, e12 _ _ h2⟩), fun t h => q _ H2 e2 ⟨t, rfl, h⟩⟩
theorem minL_rank {a : Abs} {l : List Nat} {s : Nat} {r : List Nat} : ∃ t ∈ s :: r, minL (rankI a l s) (r.map (rankI a l)) = rankI a l t := by
  have h := minL_mem (r.map (rankI a l)) (rankI a l s)
  have h' : minL (rankI a l s) (r.map (rankI a l)) ∈ (s :: r).map (rankI a l) := h
  obtain ⟨t, h1, h2⟩ := List.mem_map.mp h'
  exact ⟨t, h1, h2.symm⟩
theorem rd_best_of (T : Txt K mg) (h : pr_best_of K vs H d) : Go (t_best_of K) (start N_best_of vs) H d.post := by
  obtain ⟨A, DD, b, a, q, s, r, p, l, rfl, R, W, hq, hss, hlen, hp, l5, rfl⟩ := h
  have hW := ew_list (K := K) (σ := start N_best_of [.ref (A .lib), .ref q, .ref p]) (tl := tVar 1) (ev_var rfl) (SqL.of hq)
  have hit : ∀ k, k < (s :: r).length → (vns (s :: r))[k]? = some (.int (((s :: r).getD k 0 : Nat) : Int)) := fun k hk => by
    unfold vns
    rw [List.getElem?_map, List.getElem?_map, List.getD_eq_getElem?_getD, List.getElem?_eq_getElem hk]
    rfl
  have hin : ∀ k, k < (s :: r).length → (s :: r).getD k 0 < a.sets.length := fun k hk => by
    rw [List.getD_eq_getElem?_getD, List.getElem?_eq_getElem hk]
    exact hss _ (List.getElem_mem hk)
  refine go_asgD (ev_lc (fun k => (wipe (start N_best_of [.ref (A .lib), .ref q, .ref p]) [3]).set 3 (some (.int (((s :: r).getD k 0 : Nat) : Int)))) (fun _ => true) (fun k => dT ((rankI a l ((s :: r).getD k 0)).map .int)) hW (by rw [vns_len]; omega)
    (fun k H1 x H2 Qk e hk hy hq => tg_at hy (hit k (by rw [vns_len] at hk; exact hk)) hq) (fun k _ => wipe1) (fun k _ => et_yes) (fun k hk _ => ca_rank_of R W (hin k (by rw [vns_len] at hk; exact hk)) hp l5 (ev_var rfl) (ev_var rfl) (ev_var rfl)) (fun _ => stable_T)) fun v H1 e1 hv => ?_
  obtain ⟨m, ts, rfl, hm0, hm, hts⟩ := hv
  have ht : TupsAt H1 ts (rankI a l s :: r.map (rankI a l)) := by
    refine tups_of (G := H) ?_
    have e : givD (vns (s :: r)).length (fun _ => true) (fun k => dT ((rankI a l ((s :: r).getD k 0)).map V.int)) = (rankI a l s :: r.map (rankI a l)).map fun ns => dT (ns.map V.int) := by
      unfold givD
      rw [filter_all, vns_len]
      show _ = (((s :: r).map (rankI a l)).map fun ns => dT (ns.map V.int))
      conv => rhs; rw [list_ix (s :: r) 0]
      rw [List.map_map, List.map_map]
      rfl
    rw [← e]
    exact hts
  refine go_ret (ev_ixTD (ev_minT (ev_var rfl) hm ht) ev_c ?_)
  obtain ⟨t, _, et⟩ := minL_rank (a := a) (l := l) (s := s) (r := r)
  unfold bestI
  rw [et]
  rfl
theorem ca_best_of {q p : Addr} {s : Nat} {r l : List Nat} {A D : Tag → Addr} {b : Bool} {a : Abs} (R : Rep K H A D b a) (W : Wf a) (hq : H q = some (.lst (vns (s :: r)))) (hss : ∀ t ∈ s :: r, t < a.sets.length) (hlen : (s :: r).length ≤ 12) (hp : H p = some (.lst (vns l))) (l5 : l.length = 5) (hl : Ev tl σ H (dV (.ref (A .lib)))) (h2 : Ev ts σ H (dV (.ref q))) (h4 : Ev ta σ H (dV (.ref p))) :
    Ev (tCall (sp_best_of K) [] E0 (tCons tl (tCons ts (tCons ta tNil)))) σ H (dV (.int (bestI a l s r))) :=
  ev_call (vs := [.ref (A .lib), .ref q, .ref p]) (ea_cons hl (ea_cons h2 (ea_cons h4 ea_nil))) fun H1 e => ⟨A, D, b, a, q, s, r, p, l, rfl, R.up e, W, e _ _ hq, hss, hlen, e _ _ hp, l5, rfl⟩
end
end Pl

/-! ### what is in the way, why not sent, what is lost, bills -/
namespace Pl
open PySem PySem.Spec PyProof.Rows L2
open Kv321 (Abs Hire Set_ at5 map5 five okDesks okDays rising)
theorem ne_ix (h k : Nat) : (!decide (((k : Nat) : Int) = ((h : Nat) : Int))) = (h != k) := by
  rw [show (h != k) = !(h == k) from rfl, beqN]
  congr 1
  exact decide_eq_decide.mpr ⟨Eq.symm, Eq.symm⟩
theorem anyOr {α : Type} (p q : α → Bool) : ∀ l : List α, (l.any fun i => p i || q i) = (l.any p || l.any q)
  | [] => rfl
  | x :: l => by
    rw [List.any_cons, List.any_cons, List.any_cons, anyOr p q l]
    cases p x <;> cases q x <;> cases l.any p <;> rfl
theorem short_eq (a : Abs) (h : Nat) : a.short h = ((List.range 5).any (fun i => decide (at5 (a.hire h).loose i < at5 (a.lacks (a.hire h).set (a.hire h).desks) i)) || !(enoughI (fun i => (at5 (a.hire h).loose i : Int)) fun i => freeI a (some h) (a.hire h).work i a.today)) := by
  unfold Kv321.Abs.short enoughI
  show (List.range 5).any _ = _
  rw [List.not_all_eq_any_not, ← anyOr]
  refine List.any_congr rfl fun i => ?_
  congr 1
  by_cases h0 : at5 (a.hire h).loose i = 0
  · simp [h0]
  · have h1 : ¬ (at5 (a.hire h).loose i : Int) = 0 := by omega
    rw [decide_eq_false h1, Bool.false_or, bne_iff_ne.mpr h0, Bool.true_and, ← decide_not]
    refine decide_eq_decide.mpr ?_
    have h2 := free_nat (a := a) (x := some h) (w := (a.hire h).work) (i := i) (d := a.today) (c := at5 (a.hire h).loose i) (by omega)
    show _ ↔ ¬ ((at5 (a.hire h).loose i : Int) ≤ freeI a (some h) (a.hire h).work i a.today)
    rw [h2]
    omega
theorem rising_iff : ∀ l : List Nat, rising l = true ↔ ∀ k, k + 1 < l.length → at5 l k < at5 l (k + 1)
  | [] => ⟨fun _ k h => by simp at h, fun _ => rfl⟩
  | [x] => ⟨fun _ k h => by simp at h, fun _ => rfl⟩
  | x :: y :: l => by
    have ih := rising_iff (y :: l)
    unfold rising
    rw [Bool.and_eq_true, decide_eq_true_iff, ih]
    constructor
    · intro ⟨h1, h2⟩ k hk
      cases k with
      | zero => exact h1
      | succ k => exact h2 k (by simpa using hk)
    · intro h
      exact ⟨h 0 (by simp), fun k hk => h (k + 1) (by simpa using hk)⟩
theorem any_at5 (l : List Nat) (p : Nat → Bool) : l.any p = true ↔ ∃ k, k < l.length ∧ p (at5 l k) = true := by
  rw [List.any_eq_true]
  constructor
  · intro ⟨x, hx, hp⟩
    obtain ⟨k, hk, e⟩ := List.getElem_of_mem hx
    refine ⟨k, hk, ?_⟩
    unfold at5
    rw [List.getD_eq_getElem?_getD, List.getElem?_eq_getElem hk]
    show p l[k] = true
    rw [e]
    exact hp
  · intro ⟨k, hk, hp⟩
    refine ⟨l[k], List.getElem_mem hk, ?_⟩
    unfold at5 at hp
    rw [List.getD_eq_getElem?_getD, List.getElem?_eq_getElem hk] at hp
    exact hp
section
variable {K : PySem.W.Frag} {mg : Str → Option Value} {vs : List V} {H : Hp} {d : Dsc} {σ : L2.St} {te ta tb tl tw tn tx to ti ts tf : TE}
theorem ca_are_days_right {f n : Nat} {A D : Tag → Addr} {b : Bool} {a : Abs} (R : Rep K H A D b a) (hl : Ev tl σ H (dV (.ref (A .lib)))) (h1 : Ev tf σ H (dV (.int (f : Nat)))) (h2 : Ev tn σ H (dV (.int (n : Nat)))) :
    Ev (tCall (sp_are_days_right K) [] E0 (tCons tl (tCons tf (tCons tn tNil)))) σ H (dV (.bl (okDays a f n))) :=
  ev_call (vs := [.ref (A .lib), .int (f : Nat), .int (n : Nat)]) (ea_cons hl (ea_cons h1 (ea_cons h2 ea_nil))) fun H1 e1 => ⟨A, D, b, a, f, n, rfl, R.up e1, rfl⟩
theorem rd_is_in_way (T : Txt K mg) (h : pr_is_in_way K vs H d) : Go (t_is_in_way K) (start N_is_in_way vs) H d.post := by
  obtain ⟨A, DD, b, a, h, n, rfl, R, W, hh, rfl⟩ := h
  have hz := R.hir hh
  have hr := W.hr h hh
  refine go_asg (ev_hirings_at T R (ev_var rfl) (ev_var rfl) hh) ?_
  have hW := ew_enum (K := K) (ev_hirings (σ := (start N_is_in_way [.ref (A .lib), .int (h : Nat), .int (n : Nat)]).set 3 (some (.ref (A (.hir h))))) (ta := tVar 0) T R (ev_var rfl))
  rw [refs_len] at hW
  let c : Nat → Bool := fun o => h != o && ((a.hire o).set == (a.hire h).set && hasOn a (a.hire o) n)
  refine go_for hW (fun k σ' => (∃ s4 s5, σ' = [some (.ref (A .lib)), some (.int (h : Nat)), some (.int (n : Nat)), some (.ref (A (.hir h))), s4, s5]) ∧ ∀ j, j < k → c j = false)
    (fun k σ' => (σ'.set 4 (some (.int (k : Nat)))).set 5 (some (.ref (A (.hir k))))) ⟨⟨none, none, rfl⟩, fun j hj => by omega⟩ (fun k σ' H1 y H2 Qk e1 hk hS hy q => ?_) (fun k σ' hk ⟨⟨s4, s5, hσ⟩, hS⟩ => ?_) fun σ' ⟨⟨s4, s5, hσ⟩, hS⟩ => ?_
  · exact tg_pair hy rfl (by unfold refs; rw [List.getElem?_map, List.getElem?_range hk]; rfl) q
  · subst hσ
    have hy := R.hir hk
    have ec : (!decide (((k : Nat) : Int) = ((h : Nat) : Int)) && (decide (((a.hire k).set : Int) = ((a.hire h).set : Int)) && hasOn a (a.hire k) n)) = c k := by
      rw [ne_ix, ← beqN]
    refine gn_if (EvT.is (et_and (b := decide (((a.hire k).set : Int) = ((a.hire h).set : Int)) && hasOn a (a.hire k) n) (et_test (ev_ne (ev_var rfl) (ev_var rfl))) (fun _ => et_and (et_test (ev_eq (ev_fld (ev_var rfl) (hy.kit T)) (ev_fld (ev_var rfl) (hz.kit T)))) (fun _ => et_B (ca_has_on R hy (ev_var rfl) (ev_var rfl) (ev_var rfl))))) ec) (fun hb => ?_) fun hb => ?_
    · refine Go.n (go_ret (ev_c.is (congrArg V.bl ?_)))
      symm
      unfold inWay
      rw [Bool.or_eq_true]
      exact Or.inl (List.any_eq_true.mpr ⟨k, List.mem_range.mpr hk, hb⟩)
    · refine gn_next ⟨⟨_, _, rfl⟩, fun j hj => ?_⟩
      by_cases ej : j = k
      · subst ej
        exact hb
      · exact hS j (by omega)
  · subst hσ
    refine go_ret ((ev_notV (ca_are_enough ((ev_fldL (ev_var rfl) (hz.put T)).isL (vns5 hr.2.2.2.1)) (ca_free_on (x := some h) R W hr.1 (ev_var rfl) (ev_fld (ev_var rfl) (hz.work T)) (ev_var rfl) (ev_var rfl)).L)).is (congrArg V.bl ?_))
    unfold inWay
    have e0 : ((List.range a.hires.length).any fun o => h != o && ((a.hire o).set == (a.hire h).set && hasOn a (a.hire o) n)) = false := by
      rw [List.any_eq_false]
      intro j hj
      have h2 : c j = false := hS j (List.mem_range.mp hj)
      show ¬ c j = true
      rw [h2]
      decide
    rw [e0, Bool.false_or]
theorem ca_is_in_way {h n : Nat} {A D : Tag → Addr} {b : Bool} {a : Abs} (R : Rep K H A D b a) (W : Wf a) (hh : h < a.hires.length) (hl : Ev tl σ H (dV (.ref (A .lib)))) (h1 : Ev tf σ H (dV (.int (h : Nat)))) (h2 : Ev tn σ H (dV (.int (n : Nat)))) :
    Ev (tCall (sp_is_in_way K) [] E0 (tCons tl (tCons tf (tCons tn tNil)))) σ H (dV (.bl (inWay a h n))) :=
  ev_call (vs := [.ref (A .lib), .int (h : Nat), .int (n : Nat)]) (ea_cons hl (ea_cons h1 (ea_cons h2 ea_nil))) fun H1 e1 => ⟨A, D, b, a, h, n, rfl, R.up e1, W, hh, rfl⟩
theorem rd_is_any_in_way (T : Txt K mg) (h : pr_is_any_in_way K vs H d) : Go (t_is_any_in_way K) (start N_is_any_in_way vs) H d.post := by
  obtain ⟨A, DD, b, a, h, n, rfl, R, W, hh, hn, rfl⟩ := h
  have hz := R.hir hh
  have hr := W.hr h hh
  have ht := W.tn
  refine go_asg (ev_fld (ev_hirings_at T R (ev_var rfl) (ev_var rfl) hh) (hz.first T)) ?_
  refine go_ret (Ev.is (ev_any (bs := (List.range (n + a.turn)).map fun j => inWay a h ((a.hire h).from_ + j)) (Ev.isL (Ev.L (ev_lcR2 (fun j => .bl (inWay a h ((a.hire h).from_ + j))) (ev_var rfl) (ev_I (ev_I (ev_var rfl) (ev_var rfl)) (ev_fld (ev_var rfl) (R.turn T))) (by omega) (by omega) fun k hk => ?_)) ?_)) (congrArg V.bl ?_))
  · exact ca_is_in_way R W hh (ev_var rfl) (ev_var rfl) ((ev_var rfl).is (congrArg V.int (by omega)))
  · rw [List.map_map, show (((a.hire h).from_ : Int) + (n : Int) + (a.turn : Int) - ((a.hire h).from_ : Int)).toNat = n + a.turn by omega]
    rfl
  · rw [List.any_map]
    rfl
theorem ca_is_any_in_way {h n : Nat} {A D : Tag → Addr} {b : Bool} {a : Abs} (R : Rep K H A D b a) (W : Wf a) (hh : h < a.hires.length) (hn : n ≤ 1000) (hl : Ev tl σ H (dV (.ref (A .lib)))) (h1 : Ev tf σ H (dV (.int (h : Nat)))) (h2 : Ev tn σ H (dV (.int (n : Nat)))) :
    Ev (tCall (sp_is_any_in_way K) [] E0 (tCons tl (tCons tf (tCons tn tNil)))) σ H (dV (.bl ((List.range (n + a.turn)).any fun j => inWay a h ((a.hire h).from_ + j)))) :=
  ev_call (vs := [.ref (A .lib), .int (h : Nat), .int (n : Nat)]) (ea_cons hl (ea_cons h1 (ea_cons h2 ea_nil))) fun H1 e1 => ⟨A, D, b, a, h, n, rfl, R.up e1, W, hh, hn, rfl⟩
theorem rd_why_not_sent (T : Txt K mg) (h : pr_why_not_sent K vs H d) : Go (t_why_not_sent K) (start N_why_not_sent vs) H d.post := by
  obtain ⟨A, DD, b, a, h, rfl, R, W, hh, rfl⟩ := h
  have hz := R.hir hh
  obtain ⟨r1, r2, r3, r4, r5, r6, r7⟩ := W.hr h hh
  have hk := R.kit r2
  have ok := KitOk.of W r2
  refine go_asg (ev_hirings_at T R (ev_var rfl) (ev_var rfl) hh) (go_asg (ev_kits_at T R (ev_var rfl) (ev_fld (ev_var rfl) (hz.kit T)) r2) ?_)
  refine go_if (et_test (ev_I (ev_fld (ev_var rfl) (R.today T)) (ev_fld (ev_var rfl) (hz.first T)))) (fun hb => ?_) fun hb1 => ?_
  · refine go_ret (ev_c.is (congrArg V.int ?_))
    have h1 := of_decide_eq_true hb
    unfold sentWhy
    show _ = if _ then _ else _
    rw [if_pos (by omega)]
  have n1 := of_decide_eq_false hb1
  have n1' : ¬ a.today < (a.hire h).from_ := by omega
  refine go_if (et_B (ca_is_out R W (ev_var rfl) (ev_fld (ev_var rfl) (hz.kit T)))) (fun hb => ?_) fun hb2 => ?_
  · refine go_ret (ev_c.is (congrArg V.int ?_))
    unfold sentWhy
    show _ = if _ then _ else if _ then _ else _
    rw [if_neg n1', if_pos hb]
  have n2 : ¬ a.out (a.hire h).set = true := by rw [hb2]; decide
  refine go_if (et_test (ev_neNil (ev_fldL (ev_var rfl) (hk.missing T)))) (fun hb => ?_) fun hb3 => ?_
  · refine go_ret (ev_c.is (congrArg V.int ?_))
    unfold sentWhy
    show _ = if _ then _ else if _ then _ else if _ then _ else _
    rw [if_neg n1', if_neg n2, if_pos ?_]
    intro z
    rw [z] at hb
    cases hb
  have n3 : ¬ (a.set (a.hire h).set).missing ≠ [] := by
    intro z
    cases hm : (a.set (a.hire h).set).missing with
    | nil => exact z hm
    | cons y r =>
      rw [hm] at hb3
      cases hb3
  refine go_if (et_and (et_test (ev_eq (ev_fld (ev_var rfl) (hz.clean T)) ev_c)) (fun _ => et_test (ev_I (ev_fld (ev_var rfl) (hk.marked T)) ev_c))) (fun hb => ?_) fun hb4 => ?_
  · refine go_ret (ev_c.is (congrArg V.int ?_))
    unfold sentWhy
    show _ = if _ then _ else if _ then _ else if _ then _ else if _ then _ else _
    rw [if_neg n1', if_neg n2, if_neg n3, if_pos ?_]
    obtain ⟨h1, h2⟩ := Bool.and_eq_true_iff.mp hb
    have h1' := of_decide_eq_true h1
    have h2' := of_decide_eq_true h2
    constructor
    · cases hc : (a.hire h).clean with
      | true => rfl
      | false =>
        rw [hc] at h1'
        cases h1'
    · cases hm : (a.set (a.hire h).set).marked with
      | some m => rfl
      | none =>
        rw [hm] at h2'
        exact absurd h2' (by decide)
  have n4 : ¬ ((a.hire h).clean = true ∧ (a.set (a.hire h).set).marked.isSome = true) := by
    intro ⟨z1, z2⟩
    obtain ⟨m, hm⟩ := Option.isSome_iff_exists.mp z2
    rw [z1, hm, Bool.and_eq_false_iff] at hb4
    rcases hb4 with z | z
    · exact absurd z (by decide)
    · have := of_decide_eq_false z
      apply this
      show (0 : Int) < (m : Int) + 1
      omega
  refine go_asgD (ca_lack_ofD hk ok r3 (ev_var rfl) (ev_fldL (ev_var rfl) (hz.desks T))) fun v H1 e1 hv => ?_
  obtain ⟨q, rfl, hq0, hq⟩ := hv
  have R1 := R.up e1
  have hz1 := hz.up e1
  have eL : lackN (a.set (a.hire h).set) (a.hire h).desks = a.lacks (a.hire h).set (a.hire h).desks := rfl
  rw [eL] at hq
  have l5 : (a.lacks (a.hire h).set (a.hire h).desks).length = 5 := map5_len _
  refine go_if (et_B (Ev.is (ev_any (bs := (List.range 5).map fun i => decide ((at5 (a.hire h).loose i : Int) < (at5 (a.lacks (a.hire h).set (a.hire h).desks) i : Int))) (Ev.isL (Ev.L (ev_lc5 (fun i => .bl (decide ((at5 (a.hire h).loose i : Int) < (at5 (a.lacks (a.hire h).set (a.hire h).desks) i : Int)))) ev_c fun i hi =>
      ev_I (ev_ixL (ev_var rfl) (ev_var rfl) (SqL.of hq) (atI_vns (by omega))) (ev_ixD (ev_fldL (ev_var rfl) (hz1.put T)) (ev_var rfl) (atI_vns (by omega))))) (by rw [List.map_map]; rfl))) (congrArg V.bl (show _ = (List.range 5).any (fun i => decide (at5 (a.hire h).loose i < at5 (a.lacks (a.hire h).set (a.hire h).desks) i)) from ?_)))) (fun hb => ?_) fun hb5 => ?_
  · rw [List.any_map]
    refine List.any_congr rfl fun i => ?_
    exact decide_eq_decide.mpr (by omega)
  · refine go_ret (ev_c.is (congrArg V.int ?_))
    unfold sentWhy
    show _ = if _ then _ else if _ then _ else if _ then _ else if _ then _ else if _ then _ else _
    rw [if_neg n1', if_neg n2, if_neg n3, if_neg n4, if_pos ?_]
    rw [short_eq, hb, Bool.true_or]
  refine go_if (et_not (et_B (ca_are_enough ((ev_fldL (ev_var rfl) (hz1.put T)).isL (vns5 r4)) (ca_free_on (x := some h) R1 W r1 (ev_var rfl) (ev_fld (ev_var rfl) (hz1.work T)) (ev_fld (ev_var rfl) (R1.today T)) (ev_var rfl)).L))) (fun hb => ?_) fun hb6 => ?_
  · refine go_ret (ev_c.is (congrArg V.int ?_))
    unfold sentWhy
    show _ = if _ then _ else if _ then _ else if _ then _ else if _ then _ else if _ then _ else _
    rw [if_neg n1', if_neg n2, if_neg n3, if_neg n4, if_pos ?_]
    rw [short_eq, hb5, Bool.false_or]
    exact hb
  · refine go_ret (ev_c.is (congrArg V.int ?_))
    unfold sentWhy
    show _ = if _ then _ else if _ then _ else if _ then _ else if _ then _ else if _ then _ else _
    rw [if_neg n1', if_neg n2, if_neg n3, if_neg n4, if_neg ?_]
    rw [short_eq, hb5, Bool.false_or, hb6]
    decide
theorem ca_why_not_sent {h : Nat} {A D : Tag → Addr} {b : Bool} {a : Abs} (R : Rep K H A D b a) (W : Wf a) (hh : h < a.hires.length) (hl : Ev tl σ H (dV (.ref (A .lib)))) (h1 : Ev tf σ H (dV (.int (h : Nat)))) :
    Ev (tCall (sp_why_not_sent K) [] E0 (tCons tl (tCons tf tNil))) σ H (dV (.int (sentWhy a h))) :=
  ev_call (vs := [.ref (A .lib), .int (h : Nat)]) (ea_cons hl (ea_cons h1 ea_nil)) fun H1 e1 => ⟨A, D, b, a, h, rfl, R.up e1, W, hh, rfl⟩
theorem rd_sent_of (T : Txt K mg) (h : pr_sent_of K vs H d) : Go (t_sent_of K) (start N_sent_of vs) H d.post := by
  obtain ⟨A, DD, b, a, x, z, rfl, R, W, hz, hs, l5, rfl⟩ := h
  have hk := R.kit hs
  have ok := KitOk.of W hs
  refine go_asgD (ca_there_of hk ok.s5 ok.g5 (ev_kits_at T R (ev_var rfl) (ev_fld (ev_var rfl) (hz.kit T)) hs)) fun v H1 e1 hv => ?_
  obtain ⟨q, rfl, hq0, hq⟩ := hv
  have hz1 := hz.up e1
  refine go_ret (Ev.isN (ev_lc5 (fun i => .int ((at5 (a.set z.set).strings i - at5 (a.set z.set).gone i + at5 z.loose i : Nat) : Int)) ev_c fun i hi => ?_) (vns_map5 _).symm)
  refine (ev_I (ev_ixL (ev_var rfl) (ev_var rfl) (SqL.of hq) (atI_lF5 hi)) (ev_ixD (ev_fldL (ev_var rfl) (hz1.put T)) (ev_var rfl) (atI_vns (by omega)))).is (congrArg V.int ?_)
  have := ok.le i hi
  omega
theorem ca_sent_of {x : Addr} {z : Hire} {A D : Tag → Addr} {b : Bool} {a : Abs} (R : Rep K H A D b a) (W : Wf a) (hz : Hir K H x z) (hs : z.set < a.sets.length) (l5 : z.loose.length = 5) (hl : Ev tl σ H (dV (.ref (A .lib)))) (h1 : Ev te σ H (dV (.ref x))) :
    Ev (tCall (sp_sent_of K) [] E0 (tCons tl (tCons te tNil))) σ H (dN (vns (a.sent z))) :=
  ev_call (vs := [.ref (A .lib), .ref x]) (ea_cons hl (ea_cons h1 ea_nil)) fun H1 e1 => ⟨A, D, b, a, x, z, rfl, R.up e1, W, hz.up e1, hs, l5, rfl⟩
theorem rd_are_winds (T : Txt K mg) (h : pr_are_winds K vs H d) : Go (t_are_winds K) (start N_are_winds vs) H d.post := by
  obtain ⟨x, v, p, l, rfl, hv, hp, hl, rfl⟩ := h
  have hW := ew_range1 (σ := start N_are_winds [.ref x, .ref p]) (ev_lenD (K := K) ((ev_var (k := 1) rfl).asL hp)) (by rw [vns_len]; omega)
  have hn : (((vns l).length : Nat) : Int).toNat = l.length := by rw [vns_len]; omega
  rw [hn] at hW
  refine go_for hW (fun k σ' => (∃ s2, σ' = [some (.ref x), some (.ref p), s2]) ∧ ∀ j, j < k → at5 l j < v.winds ∧ (0 < j → at5 l (j - 1) < at5 l j))
    (fun k σ' => σ'.set 2 (some (.int (k : Nat)))) ⟨⟨none, rfl⟩, fun j hj => by omega⟩ (fun k σ' H1 y H2 Qk e1 hk hS hy q => tg_fn hy q) (fun k σ' hk ⟨⟨s2, hσ⟩, hS⟩ => ?_) fun σ' ⟨⟨s2, hσ⟩, hS⟩ => ?_
  · subst hσ
    refine gn_if (et_or (et_test (ev_I (ev_ixL (ev_var rfl) (ev_var rfl) (SqL.of hp) (atI_vns hk)) (ev_fld (ev_var rfl) (hv.winds T)))) (fun _ => et_and (b := decide (0 < k ∧ at5 l k ≤ at5 l (k - 1))) (et_test (ev_I (ev_var rfl) ev_c)) (fun h0 => ?_))) (fun hb => ?_) fun hb => ?_
    · have h0' := of_decide_eq_true h0
      refine et_test ((ev_I (ev_ixL (i := ((k - 1 : Nat) : Int)) (ev_var rfl) ((ev_I (ev_var rfl) ev_c).is (congrArg V.int (by omega))) (SqL.of hp) (atI_vns (by omega))) (ev_ixL (ev_var rfl) (ev_var rfl) (SqL.of hp) (atI_vns hk))).is (congrArg V.bl ?_))
      exact decide_eq_decide.mpr (by omega)
    · refine Go.n (go_ret (ev_c.is (congrArg V.bl ?_)))
      symm
      rw [Bool.and_eq_false_iff]
      rcases Bool.or_eq_true_iff.mp hb with hb | hb
      · right
        rw [Bool.not_eq_false', any_at5]
        have := of_decide_eq_true hb
        exact ⟨k, hk, decide_eq_true (by omega)⟩
      · left
        have h2 := of_decide_eq_true (Bool.and_eq_true_iff.mp hb).2
        refine Bool.eq_false_iff.mpr fun z => ?_
        have h3 := (rising_iff l).mp z (k - 1) (by omega)
        rw [show k - 1 + 1 = k by omega] at h3
        omega
    · refine gn_next ⟨⟨_, rfl⟩, fun j hj => ?_⟩
      by_cases ej : j = k
      · subst ej
        rw [Bool.or_eq_false_iff] at hb
        have h1 := of_decide_eq_false hb.1
        refine ⟨by omega, fun h0 => ?_⟩
        rcases Bool.and_eq_false_iff.mp hb.2 with h2 | h2
        · have := of_decide_eq_false h2
          omega
        · have := of_decide_eq_false h2
          omega
      · exact hS j (by omega)
  · subst hσ
    refine go_ret (ev_c.is (congrArg V.bl ?_))
    symm
    rw [Bool.and_eq_true]
    constructor
    · rw [rising_iff]
      intro k hk
      have := (hS (k + 1) hk).2 (by omega)
      exact this
    · rw [Bool.not_eq_true']
      refine Bool.eq_false_iff.mpr fun z => ?_
      obtain ⟨k, hk, h1⟩ := (any_at5 l _).mp z
      have h2 := (hS k hk).1
      have h3 := of_decide_eq_true h1
      omega
theorem ca_are_winds {x p : Addr} {v : Kv321.Work} {l : List Nat} (hv : Wrk K H x v) (hp : H p = some (.lst (vns l))) (hl : l.length ≤ 1000) (h1 : Ev ta σ H (dV (.ref x))) (h2 : Ev tb σ H (dV (.ref p))) :
    Ev (tCall (sp_are_winds K) [] E0 (tCons ta (tCons tb tNil))) σ H (dV (.bl (rising l && !(l.any fun y => decide (v.winds ≤ y))))) :=
  ev_call (vs := [.ref x, .ref p]) (ea_cons h1 (ea_cons h2 ea_nil)) fun H1 e1 => ⟨x, v, p, l, rfl, hv.up e1, e1 _ _ hp, hl, rfl⟩
theorem rd_are_lost (T : Txt K mg) (h : pr_are_lost K vs H d) : Go (t_are_lost K) (start N_are_lost vs) H d.post := by
  obtain ⟨A, DD, b, a, x, z, p, l, rfl, R, W, hz, hs, z5, hp, rfl⟩ := h
  refine go_if (et_test (ev_ne (ev_lenD ((ev_var rfl).asL hp)) ev_c)) (fun hb => ?_) fun hb => ?_
  · refine go_ret (ev_c.is (congrArg V.bl ?_))
    rw [vns_len, Bool.not_eq_true'] at hb
    have := of_decide_eq_false hb
    rw [decide_eq_false (show ¬ l.length = 5 by omega), Bool.false_and]
  · rw [vns_len, Bool.not_eq_false'] at hb
    have l5' := of_decide_eq_true hb
    have l5 : l.length = 5 := by omega
    refine go_asgD (ca_sent_of R W hz hs z5 (ev_var rfl) (ev_var rfl)) fun v H1 e1 hv => ?_
    obtain ⟨q, rfl, hq0, hq⟩ := hv
    have hp1 := e1 _ _ hp
    have s5 : (a.sent z).length = 5 := map5_len _
    refine go_ret (Ev.is (ev_all (bs := (List.range 5).map fun i => decide ((at5 l i : Int) ≤ (at5 (a.sent z) i : Int))) (Ev.isL (Ev.L (ev_lc5 (fun i => .bl (decide ((at5 l i : Int) ≤ (at5 (a.sent z) i : Int)))) ev_c fun i hi =>
      ev_I (ev_ixL (ev_var rfl) (ev_var rfl) (SqL.of hp1) (atI_vns (by omega))) (ev_ixL (ev_var rfl) (ev_var rfl) (SqL.of hq) (atI_vns (by omega))))) (by rw [List.map_map]; rfl))) (congrArg V.bl ?_))
    rw [List.all_map, decide_eq_true l5, Bool.true_and, List.not_any_eq_all_not]
    refine List.all_congr rfl fun i => ?_
    show decide _ = !decide _
    rw [← decide_not]
    exact decide_eq_decide.mpr (by omega)
theorem ca_are_lost {x p : Addr} {z : Hire} {l : List Nat} {A D : Tag → Addr} {b : Bool} {a : Abs} (R : Rep K H A D b a) (W : Wf a) (hz : Hir K H x z) (hs : z.set < a.sets.length) (l5 : z.loose.length = 5) (hp : H p = some (.lst (vns l))) (hl : Ev tl σ H (dV (.ref (A .lib)))) (h1 : Ev te σ H (dV (.ref x))) (h2 : Ev tb σ H (dV (.ref p))) :
    Ev (tCall (sp_are_lost K) [] E0 (tCons tl (tCons te (tCons tb tNil)))) σ H (dV (.bl (decide (l.length = 5) && !((List.range 5).any fun i => decide (at5 (a.sent z) i < at5 l i))))) :=
  ev_call (vs := [.ref (A .lib), .ref x, .ref p]) (ea_cons hl (ea_cons h1 (ea_cons h2 ea_nil))) fun H1 e1 => ⟨A, D, b, a, x, z, p, l, rfl, R.up e1, W, hz.up e1, hs, l5, e1 _ _ hp, rfl⟩
theorem cm1 {n : Nat} {j : Int} (h : n ≤ 100000) : CMul (n : Int) j := Or.inl ⟨by omega, by omega⟩
theorem cm2 {n : Nat} {i : Int} (h : n ≤ 100000) : CMul i (n : Int) := Or.inr ⟨by omega, by omega⟩
theorem rd_bill_of (T : Txt K mg) (h : pr_bill_of K vs H d) : Go (t_bill_of K) (start N_bill_of vs) H d.post := by
  obtain ⟨A, DD, b, a, x, z, n, rfl, R, W, hz, hw, hc, rfl⟩ := h
  have hv := R.work hw
  obtain ⟨w1, w2, w3, w4, w5⟩ := W.wk _ hw
  have hf := W.fn
  refine go_asg (ev_works_at T R (ev_var rfl) (ev_fld (ev_var rfl) (hz.work T)) hw) ?_
  refine go_ret ((ev_I (ev_I (ev_I (ev_fld (ev_var rfl) (hv.fee T)) (ev_mul (ev_I (ev_fld (ev_var rfl) (hz.concerts T)) ev_c) (ev_fld (ev_var rfl) (hv.more T)) (cm2 (by omega))))
    (ev_mul (ev_fld (ev_var rfl) (R.fine T)) (ca_late_by R hz (ev_var rfl) (ev_var rfl)) (cm1 (by omega)))) (ev_mul (ev_fld (ev_var rfl) (hv.price T)) (ev_var rfl) (cm1 (by omega)))).is (congrArg V.int ?_))
  unfold Kv321.Abs.bill
  have e1 : ((z.concerts - 1 : Nat) : Int) = (z.concerts : Int) - 1 := by omega
  rw [Int.natCast_add, Int.natCast_add, Int.natCast_add, Int.natCast_mul, Int.natCast_mul, Int.natCast_mul, e1, Int.mul_comm (a.late z : Int), Int.mul_comm (n : Int)]
theorem ca_bill_of {x : Addr} {z : Hire} {n : Nat} {A D : Tag → Addr} {b : Bool} {a : Abs} (R : Rep K H A D b a) (W : Wf a) (hz : Hir K H x z) (hw : z.work < a.works.length) (hc : 1 ≤ z.concerts) (hl : Ev tl σ H (dV (.ref (A .lib)))) (h1 : Ev te σ H (dV (.ref x))) (h2 : Ev tn σ H (dV (.int (n : Nat)))) :
    Ev (tCall (sp_bill_of K) [] E0 (tCons tl (tCons te (tCons tn tNil)))) σ H (dV (.int ((a.bill z n : Nat) : Int))) :=
  ev_call (vs := [.ref (A .lib), .ref x, .int (n : Nat)]) (ea_cons hl (ea_cons h1 (ea_cons h2 ea_nil))) fun H1 e1 => ⟨A, D, b, a, x, z, n, rfl, R.up e1, W, hz.up e1, hw, hc, rfl⟩
theorem rd_why_not_asked (T : Txt K mg) (h : pr_why_not_asked K vs H d) : Go (t_why_not_asked K) (start N_why_not_asked vs) H d.post := by
  obtain ⟨A, DD, b, a, q, w, f, n, p, l, rfl, R, hq, hp, rfl⟩ := h
  refine go_unpL (is := [3, 4, 5]) ((ev_var rfl).asL hq) rfl rfl ?_
  refine go_if (et_test (ev_I (i := (w : Int)) (ev_var rfl) (ev_works_len T R (ev_var rfl)))) (fun hb => ?_) fun hb => ?_
  · refine go_ret (ev_c.is (congrArg V.int ?_))
    have := of_decide_eq_true hb
    unfold askWhy Kv321.Abs.hasW
    rw [decide_eq_false (show ¬ w < a.works.length by omega), if_pos rfl]
  · have := of_decide_eq_false hb
    unfold askWhy Kv321.Abs.hasW
    rw [decide_eq_true (show w < a.works.length by omega), if_neg (by decide)]
    refine go_ret (ev_if (et_and (et_B (ca_are_days_right R (ev_var rfl) (ev_var rfl) (ev_var rfl))) (fun _ => et_B (ca_are_parts hp (ev_var rfl)))) (fun hb => ev_c.is (congrArg V.int ?_)) fun hb => ev_c.is (congrArg V.int ?_))
    · obtain ⟨h1, h2⟩ := Bool.and_eq_true_iff.mp hb
      rw [h1, h2, if_neg]
      rintro (z | z) <;> cases z
    · rw [if_pos]
      rcases Bool.and_eq_false_iff.mp hb with z | z
      · exact Or.inl z
      · exact Or.inr z
theorem ca_why_not_asked {q p : Addr} {w f n : Nat} {l : List Nat} {A D : Tag → Addr} {b : Bool} {a : Abs} (R : Rep K H A D b a) (hq : H q = some (.lst (vns [w, f, n]))) (hp : H p = some (.lst (vns l))) (hl : Ev tl σ H (dV (.ref (A .lib)))) (h1 : Ev te σ H (dV (.ref q))) (h2 : Ev tb σ H (dV (.ref p))) :
    Ev (tCall (sp_why_not_asked K) [] E0 (tCons tl (tCons te (tCons tb tNil)))) σ H (dV (.int (askWhy a w f n l))) :=
  ev_call (vs := [.ref (A .lib), .ref q, .ref p]) (ea_cons hl (ea_cons h1 (ea_cons h2 ea_nil))) fun H1 e1 => ⟨A, D, b, a, q, w, f, n, p, l, rfl, R.up e1, e1 _ _ hq, e1 _ _ hp, rfl⟩
theorem rd_having_on (T : Txt K mg) (h : pr_having_on K vs H d) : Go (t_having_on K) (start N_having_on vs) H d.post := by
  obtain ⟨A, DD, b, a, w, n, rfl, R, W, rfl⟩ := h
  have hn := W.nH
  refine go_ret (Ev.is (ev_lenD (Ev.L (ev_lcL (fun i => .ref (A (.hir i))) (fun i => (a.hire i).work == w && hasOn a (a.hire i) n) (fun i => .ref (A (.hir i))) (ev_hirings T R (ev_var rfl)) (by omega) (fun k hk => EvT.is (et_and (et_test (ev_eq (ev_fld (ev_var rfl) ((R.hir hk).work T)) (ev_var rfl))) (fun _ => et_B (ca_has_on R (R.hir hk) (ev_var rfl) (ev_var rfl) (ev_var rfl)))) (by rw [beqN])) fun k hk _ => ev_var rfl))) (congrArg V.int ?_))
  rw [List.length_map]
  rfl
theorem ca_having_on {w n : Nat} {A D : Tag → Addr} {b : Bool} {a : Abs} (R : Rep K H A D b a) (W : Wf a) (hl : Ev tl σ H (dV (.ref (A .lib)))) (h1 : Ev te σ H (dV (.int (w : Nat)))) (h2 : Ev tb σ H (dV (.int (n : Nat)))) :
    Ev (tCall (sp_having_on K) [] E0 (tCons tl (tCons te (tCons tb tNil)))) σ H (dV (.int ((a.onDay w n : Nat) : Int))) :=
  ev_call (vs := [.ref (A .lib), .int (w : Nat), .int (n : Nat)]) (ea_cons hl (ea_cons h1 (ea_cons h2 ea_nil))) fun H1 e1 => ⟨A, D, b, a, w, n, rfl, R.up e1, W, rfl⟩
end
end Pl

/-! ### how the state in the heap changes -/
namespace Pl
open PySem PySem.Spec PyProof.Rows L2
open Kv321 (Abs Hire Set_ at5 map5 five okDesks okDays)
def updT (A : Tag → Addr) (t : Tag) (p : Addr) : Tag → Addr := fun u => if u = t then p else A u
theorem updT_at {A : Tag → Addr} {t : Tag} {p : Addr} : updT A t p t = p := if_pos rfl
theorem updT_ne {A : Tag → Addr} {t u : Tag} {p : Addr} (h : u ≠ t) : updT A t p u = A u := if_neg h
def upW (a : Abs) (i : Nat) (v : Kv321.Work) : Abs := { a with works := a.works.set i v }
def upS (a : Abs) (i : Nat) (v : Set_) : Abs := { a with sets := a.sets.set i v }
def upH (a : Abs) (i : Nat) (v : Hire) : Abs := { a with hires := a.hires.set i v }
theorem getD_set {α : Type} {l : List α} {i j : Nat} {v d : α} (h : i < l.length) : (l.set i v).getD j d = if j = i then v else l.getD j d := by
  rw [List.getD_eq_getElem?_getD, List.getD_eq_getElem?_getD, List.getElem?_set]
  by_cases e : j = i
  · subst e
    rw [if_pos rfl, if_pos h, if_pos rfl]
    rfl
  · rw [if_neg (fun z => e z.symm), if_neg e]
theorem mod_set {α : Type} {l : List α} {i : Nat} {f : α → α} {d : α} (h : i < l.length) : l.modify i f = l.set i (f (l.getD i d)) := by
  refine List.ext_getElem? fun j => ?_
  rw [List.getElem?_modify, List.getElem?_set]
  by_cases e : i = j
  · subst e
    rw [if_pos rfl, if_pos h, List.getElem?_eq_getElem h]
    simp [List.getD_eq_getElem?_getD, List.getElem?_eq_getElem h]
  · rw [if_neg e]
    cases l[j]? with
    | none => rfl
    | some x => exact congrArg some (if_neg e)
theorem upW_work {a : Abs} {i j : Nat} {v : Kv321.Work} (h : i < a.works.length) : (upW a i v).work j = if j = i then v else a.work j := getD_set h
theorem upS_set {a : Abs} {i j : Nat} {v : Set_} (h : i < a.sets.length) : (upS a i v).set j = if j = i then v else a.set j := getD_set h
theorem upH_hire {a : Abs} {i j : Nat} {v : Hire} (h : i < a.hires.length) : (upH a i v).hire j = if j = i then v else a.hire j := getD_set h
theorem refs_succ {A : Nat → Addr} {n : Nat} : refs A (n + 1) = refs A n ++ [.ref (A n)] := by
  unfold refs
  rw [List.range_succ, List.map_append]
  rfl
theorem Stp.refl {H : Hp} {A : Tag → Addr} {a : Abs} : Stp H A a H A a := ⟨fun _ _ h _ => h, fun _ h => Or.inl h, fun _ h => h⟩
theorem Stp.ex {G H H' : Hp} {A A1 : Tag → Addr} {a a1 : Abs} (S : Stp G A a H A1 a1) (e : Ex H H') : Stp G A a H' A1 a1 := ⟨fun p o h n => e _ _ (S.keep p o h n), S.own, fun q h => S.dom q (fresh_back e h)⟩
theorem Stp.upd {G H : Hp} {A A1 A2 : Tag → Addr} {a a1 a2 : Abs} (S : Stp G A a H A1 a1) {x : Addr} {o : HO} (hx : Own A1 a1 x ∨ G x = none) (ho : ∀ q, Own A2 a2 q → Own A1 a1 q ∨ G q = none) : Stp G A a (upd H x o) A2 a2 :=
  ⟨fun p u h n => by
    have hp : p ≠ x := fun z => by
      subst z
      rcases hx with h1 | h1
      · rcases S.own _ h1 with h2 | h2
        · exact n h2
        · rw [h] at h2
          cases h2
      · rw [h] at h1
        cases h1
    rw [upd_ne hp]
    exact S.keep p u h n, fun q h => (ho q h).elim (S.own q) Or.inr, fun q h => by
    by_cases e : q = x
    · subst e
      rw [upd_same] at h
      cases h
    · rw [upd_ne e] at h
      exact S.dom q h⟩
theorem Stp.trans {G H H' : Hp} {A A1 A2 : Tag → Addr} {a a1 a2 : Abs} (S : Stp G A a H A1 a1) (S' : Stp H A1 a1 H' A2 a2) : Stp G A a H' A2 a2 :=
  by
  refine ⟨fun p o h n => S'.keep p o (S.keep p o h n) fun z => ?_, fun q h => ?_, fun q h => S.dom q (S'.dom q h)⟩
  · rcases S.own _ z with h2 | h2
    · exact n h2
    · rw [h] at h2
      cases h2
  · rcases S'.own q h with h1 | h1
    · exact S.own q h1
    · exact Or.inr (S.dom q h1)
section
variable {K : PySem.W.Frag} {mg : Str → Option Value} {G H H' : Hp} {A A0 D A' D' : Tag → Addr} {b b' : Bool} {a a0 a' : Abs} {p : Addr}
theorem Rep.up1 (R : Rep K H A D b a) {t0 : Tag} (hok : ∀ t : Tag, t.ok a' ↔ t.ok a) (h0 : t0.ok a) (co : ∀ t : Tag, t.ok a → t ≠ t0 → cont K A D b' a' t = cont K A D b a t) : Rep K (upd H (A t0) (cont K A D b' a' t0)) A D b' a' :=
  ⟨fun t ht => by
    have ht' := (hok t).mp ht
    by_cases e : t = t0
    · subst e
      exact upd_same
    · rw [upd_ne (fun z => e (R.inj _ _ ht' h0 z)), co t ht' e]
      exact R.at_ t ht', fun t u ht hu => R.inj t u ((hok t).mp ht) ((hok u).mp hu)⟩
theorem Rep.upL (R : Rep K H A D b a) {t0 t1 : Tag} (hok : ∀ t : Tag, t.ok a' ↔ t.ok a) (h0 : t0.ok a) (h1 : t1.ok a) (hne : t0 ≠ t1) (hp : ¬ Own A a p)
    (co : ∀ t : Tag, t.ok a → t ≠ t0 → t ≠ t1 → cont K (updT A t1 p) D b' a' t = cont K A D b a t) (c1 : H p = Option.some (cont K (updT A t1 p) D b' a' t1)) : Rep K (upd H (A t0) (cont K (updT A t1 p) D b' a' t0)) (updT A t1 p) D b' a' :=
  ⟨fun t ht => by
    have ht' := (hok t).mp ht
    have hp0 : p ≠ A t0 := fun z => hp ⟨t0, h0, z.symm⟩
    by_cases e : t = t0
    · subst e
      rw [updT_ne hne]
      exact upd_same
    · by_cases e1 : t = t1
      · subst e1
        rw [updT_at, upd_ne hp0]
        exact c1
      · rw [updT_ne e1, upd_ne (fun z => e (R.inj _ _ ht' h0 z)), co t ht' e e1]
        exact R.at_ t ht', fun t u ht hu z => by
    have ht' := (hok t).mp ht
    have hu' := (hok u).mp hu
    by_cases e1 : t = t1
    · by_cases e2 : u = t1
      · rw [e1, e2]
      · rw [e1, updT_at, updT_ne e2] at z
        exact absurd ⟨u, hu', z.symm⟩ hp
    · by_cases e2 : u = t1
      · rw [e2, updT_at, updT_ne e1] at z
        exact absurd ⟨t, ht', z⟩ hp
      · rw [updT_ne e1, updT_ne e2] at z
        exact R.inj t u ht' hu' z⟩
theorem own_upL {t1 : Tag} (hok : ∀ t : Tag, t.ok a' ↔ t.ok a) {q : Addr} (h : Own (updT A t1 p) a' q) : Own A a q ∨ q = p := by
  obtain ⟨t, ht, e⟩ := h
  by_cases e1 : t = t1
  · rw [e1, updT_at] at e
    exact Or.inr e.symm
  · rw [updT_ne e1] at e
    exact Or.inl ⟨t, (hok t).mp ht, e⟩
theorem Rep.grow (R : Rep K H A D b a) {t0 : Tag} {N : Tag → Prop} (hok : ∀ t : Tag, t.ok a' → t.ok a ∨ N t) (h0 : t0.ok a) (co : ∀ t : Tag, t.ok a → t ≠ t0 → cont K A D b a' t = cont K A D b a t)
    (cn : ∀ t, N t → H (A t) = Option.some (cont K A D b a' t)) (no : ∀ t, N t → ¬ Own A a (A t)) (nj : ∀ t u, N t → N u → A t = A u → t = u) : Rep K (upd H (A t0) (cont K A D b a' t0)) A D b a' :=
  ⟨fun t ht => by
    rcases hok t ht with ht' | ht'
    · by_cases e : t = t0
      · subst e
        exact upd_same
      · rw [upd_ne (fun z => e (R.inj _ _ ht' h0 z)), co t ht' e]
        exact R.at_ t ht'
    · rw [upd_ne (fun z => no t ht' ⟨t0, h0, z.symm⟩)]
      exact cn t ht', fun t u ht hu z => by
    rcases hok t ht with ht' | ht' <;> rcases hok u hu with hu' | hu'
    · exact R.inj t u ht' hu' z
    · exact absurd ⟨t, ht', z⟩ (no u hu')
    · exact absurd ⟨u, hu', z.symm⟩ (no t ht')
    · exact nj t u ht' hu' z⟩
theorem refs_congr {A A' : Nat → Addr} {n : Nat} (h : ∀ i, i < n → A i = A' i) : refs A n = refs A' n := List.map_congr_left fun i hi => congrArg V.ref (h i (List.mem_range.mp hi))
theorem Rep.junk (R : Rep K H A D b a) (hA : ∀ t : Tag, t.ok a → A' t = A t ∧ D' t = D t) : Rep K H A' D' b a := by
  refine ⟨fun t ht => ?_, fun t u ht hu z => ?_⟩
  · rw [(hA t ht).1, R.at_ t ht]
    congr 1
    have f1 := (hA .works trivial).1
    have f2 := (hA .kits trivial).1
    have f3 := (hA .hirs trivial).1
    cases t with
    | lib => simp only [cont, f1, f2, f3, (hA .lib trivial).2]
    | works => exact congrArg HO.lst (refs_congr fun i hi => (hA (.work i) hi).1.symm)
    | kits => exact congrArg HO.lst (refs_congr fun i hi => (hA (.kit i) hi).1.symm)
    | hirs => exact congrArg HO.lst (refs_congr fun i hi => (hA (.hir i) hi).1.symm)
    | work i => simp only [cont, (hA (.loose i) ht).1, (hA (.work i) ht).2]
    | loose i => rfl
    | kit i => simp only [cont, (hA (.strs i) ht).1, (hA (.miss i) ht).1, (hA (.gone i) ht).1, (hA (.kit i) ht).2]
    | «strs» i => rfl
    | miss i => rfl
    | gone i => rfl
    | hir i => simp only [cont, (hA (.desks i) ht).1, (hA (.put i) ht).1, (hA (.hir i) ht).2]
    | desks i => rfl
    | put i => rfl
  · rw [(hA t ht).1, (hA u hu).1] at z
    exact R.inj t u ht hu z
/-! the state, live since the heap G -/
structure Lv (K : PySem.W.Frag) (G : Hp) (A0 : Tag → Addr) (a0 : Abs) (H : Hp) (A D : Tag → Addr) (b : Bool) (a : Abs) : Prop where
  R : Rep K H A D b a
  S : Stp G A0 a0 H A a
  l : A .lib = A0 .lib
theorem Lv.up (L : Lv K G A0 a0 H A D b a) (e : Ex H H') : Lv K G A0 a0 H' A D b a := ⟨L.R.up e, L.S.ex e, L.l⟩
theorem Lv.new (R : Rep K H A D b a) : Lv K H A a H A D b a := ⟨R, .refl, rfl⟩
theorem Lv.old (L : Lv K G A0 a0 H A D b a) {o : HO} (h : G p = some o) (n : ¬ Own A0 a0 p) : H p = some o := L.S.keep p o h n
theorem Lv.nown (L : Lv K G A0 a0 H A D b a) (h : H p = none) : ¬ Own A a p := fun z => L.R.some z h
theorem Lv.up1 (L : Lv K G A0 a0 H A D b a) {t0 : Tag} (hok : ∀ t : Tag, t.ok a' ↔ t.ok a) (h0 : t0.ok a) (co : ∀ t : Tag, t.ok a → t ≠ t0 → cont K A D b' a' t = cont K A D b a t) : Lv K G A0 a0 (upd H (A t0) (cont K A D b' a' t0)) A D b' a' :=
  ⟨L.R.up1 hok h0 co, L.S.upd (Or.inl ⟨t0, h0, rfl⟩) fun q ⟨t, ht, e⟩ => Or.inl ⟨t, (hok t).mp ht, e⟩, L.l⟩
theorem Lv.upL (L : Lv K G A0 a0 H A D b a) {t0 t1 : Tag} (hok : ∀ t : Tag, t.ok a' ↔ t.ok a) (h0 : t0.ok a) (h1 : t1.ok a) (hne : t0 ≠ t1) (hl : t1 ≠ .lib) (hp : ¬ Own A a p) (hg : G p = none)
    (co : ∀ t : Tag, t.ok a → t ≠ t0 → t ≠ t1 → cont K (updT A t1 p) D b' a' t = cont K A D b a t) (c1 : H p = some (cont K (updT A t1 p) D b' a' t1)) : Lv K G A0 a0 (upd H (A t0) (cont K (updT A t1 p) D b' a' t0)) (updT A t1 p) D b' a' :=
  ⟨L.R.upL hok h0 h1 hne hp co c1, L.S.upd (Or.inl ⟨t0, h0, rfl⟩) fun q h => (own_upL hok h).imp id fun e => by rw [e]; exact hg, by rw [updT_ne (Ne.symm hl)]; exact L.l⟩
theorem okW {i : Nat} {v : Kv321.Work} (t : Tag) : t.ok (upW a i v) ↔ t.ok a := by
  cases t <;> simp [Tag.ok, upW]
theorem okS {i : Nat} {v : Set_} (t : Tag) : t.ok (upS a i v) ↔ t.ok a := by
  cases t <;> simp [Tag.ok, upS]
theorem okH {i : Nat} {v : Hire} (t : Tag) : t.ok (upH a i v) ↔ t.ok a := by
  cases t <;> simp [Tag.ok, upH]
theorem Lv.hir (L : Lv K G A0 a0 H A D b a) {i : Nat} {z : Hire} (hi : i < a.hires.length) (ds : z.desks = (a.hire i).desks) (lo : z.loose = (a.hire i).loose) :
    Lv K G A0 a0 (upd H (A (.hir i)) (.ins (He.ga K "Hiring") (D (.hir i)) (hF z (A (.desks i)) (A (.put i))))) A D b (upH a i z) := by
  have h := L.up1 (t0 := .hir i) (a' := upH a i z) (b' := b) okH hi fun t ht hn => ?_
  · have e : cont K A D b (upH a i z) (.hir i) = .ins (He.ga K "Hiring") (D (.hir i)) (hF z (A (.desks i)) (A (.put i))) := by
      simp only [cont, upH_hire hi, if_pos]
    rw [e] at h
    exact h
  · cases t with
    | hirs => simp only [cont, upH, List.length_set]
    | hir j =>
      have : ¬ j = i := fun e => hn (by rw [e])
      simp only [cont, upH_hire hi, if_neg this]
    | desks j =>
      simp only [cont, upH_hire hi]
      split
      · rename_i e
        rw [ds, e]
      · rfl
    | put j =>
      simp only [cont, upH_hire hi]
      split
      · rename_i e
        rw [lo, e]
      · rfl
    | _ => rfl
theorem Lv.put (L : Lv K G A0 a0 H A D b a) {i : Nat} {z : Hire} (hi : i < a.hires.length) (ds : z.desks = (a.hire i).desks) (hp : ¬ Own A a p) (hg : G p = none) (c1 : H p = some (.lst (vns z.loose))) :
    Lv K G A0 a0 (upd H (A (.hir i)) (.ins (He.ga K "Hiring") (D (.hir i)) (hF z (A (.desks i)) p))) (updT A (.put i) p) D b (upH a i z) := by
  have h := L.upL (t0 := .hir i) (t1 := .put i) (a' := upH a i z) (b' := b) okH hi hi (by intro z; cases z) (by intro z; cases z) hp hg (fun t ht hn hm => ?_) ?_
  · have e : cont K (updT A (.put i) p) D b (upH a i z) (.hir i) = .ins (He.ga K "Hiring") (D (.hir i)) (hF z (A (.desks i)) p) := by
      simp [cont, upH_hire hi, updT]
    rw [e] at h
    exact h
  · cases t with
    | hirs => simp [cont, upH, updT]
    | hir j =>
      have : ¬ j = i := fun e => hn (by rw [e])
      simp [cont, upH_hire hi, updT, this]
    | desks j =>
      simp only [cont, upH_hire hi]
      split
      · rename_i e
        rw [ds, e]
      · rfl
    | put j =>
      have : ¬ j = i := fun e => hm (by rw [e])
      simp only [cont, upH_hire hi, if_neg this]
    | _ => simp [cont, upH, updT] <;> rfl
  · rw [c1]
    simp [cont, upH_hire hi]
theorem Lv.kit (L : Lv K G A0 a0 H A D b a) {i : Nat} {z : Set_} (hi : i < a.sets.length) (e1 : z.strings = (a.set i).strings) (e2 : z.missing = (a.set i).missing) (e3 : z.gone = (a.set i).gone) :
    Lv K G A0 a0 (upd H (A (.kit i)) (.ins (He.ga K "Kit") (D (.kit i)) (kF z (A (.strs i)) (A (.miss i)) (A (.gone i))))) A D b (upS a i z) := by
  have h := L.up1 (t0 := .kit i) (a' := upS a i z) (b' := b) okS hi fun t ht hn => ?_
  · have e : cont K A D b (upS a i z) (.kit i) = .ins (He.ga K "Kit") (D (.kit i)) (kF z (A (.strs i)) (A (.miss i)) (A (.gone i))) := by
      simp only [cont, upS_set hi, if_pos]
    rw [e] at h
    exact h
  · cases t with
    | kits => simp only [cont, upS, List.length_set]
    | kit j =>
      have : ¬ j = i := fun e => hn (by rw [e])
      simp only [cont, upS_set hi, if_neg this]
    | «strs» j =>
      simp only [cont, upS_set hi]
      split
      · rename_i e
        rw [e1, e]
      · rfl
    | miss j =>
      simp only [cont, upS_set hi]
      split
      · rename_i e
        rw [e2, e]
      · rfl
    | gone j =>
      simp only [cont, upS_set hi]
      split
      · rename_i e
        rw [e3, e]
      · rfl
    | _ => rfl
theorem Lv.miss (L : Lv K G A0 a0 H A D b a) {i : Nat} {z : Set_} (hi : i < a.sets.length) (e1 : z.strings = (a.set i).strings) (e3 : z.gone = (a.set i).gone) (hp : ¬ Own A a p) (hg : G p = none) (c1 : H p = some (.lst (vns z.missing))) :
    Lv K G A0 a0 (upd H (A (.kit i)) (.ins (He.ga K "Kit") (D (.kit i)) (kF z (A (.strs i)) p (A (.gone i))))) (updT A (.miss i) p) D b (upS a i z) := by
  have h := L.upL (t0 := .kit i) (t1 := .miss i) (a' := upS a i z) (b' := b) okS hi hi (by intro z; cases z) (by intro z; cases z) hp hg (fun t ht hn hm => ?_) ?_
  · have e : cont K (updT A (.miss i) p) D b (upS a i z) (.kit i) = .ins (He.ga K "Kit") (D (.kit i)) (kF z (A (.strs i)) p (A (.gone i))) := by
      simp [cont, upS_set hi, updT]
    rw [e] at h
    exact h
  · cases t with
    | kits => simp [cont, upS, updT]
    | kit j =>
      have : ¬ j = i := fun e => hn (by rw [e])
      simp [cont, upS_set hi, updT, this]
    | «strs» j =>
      simp only [cont, upS_set hi]
      split
      · rename_i e
        rw [e1, e]
      · rfl
    | gone j =>
      simp only [cont, upS_set hi]
      split
      · rename_i e
        rw [e3, e]
      · rfl
    | miss j =>
      have : ¬ j = i := fun e => hm (by rw [e])
      simp only [cont, upS_set hi, if_neg this]
    | _ => simp [cont, upS, updT] <;> rfl
  · rw [c1]
    simp [cont, upS_set hi]
theorem Lv.gone (L : Lv K G A0 a0 H A D b a) {i : Nat} {z : Set_} (hi : i < a.sets.length) (e1 : z.strings = (a.set i).strings) (e2 : z.missing = (a.set i).missing) (hp : ¬ Own A a p) (hg : G p = none) (c1 : H p = some (.lst (vns z.gone))) :
    Lv K G A0 a0 (upd H (A (.kit i)) (.ins (He.ga K "Kit") (D (.kit i)) (kF z (A (.strs i)) (A (.miss i)) p))) (updT A (.gone i) p) D b (upS a i z) := by
  have h := L.upL (t0 := .kit i) (t1 := .gone i) (a' := upS a i z) (b' := b) okS hi hi (by intro z; cases z) (by intro z; cases z) hp hg (fun t ht hn hm => ?_) ?_
  · have e : cont K (updT A (.gone i) p) D b (upS a i z) (.kit i) = .ins (He.ga K "Kit") (D (.kit i)) (kF z (A (.strs i)) (A (.miss i)) p) := by
      simp [cont, upS_set hi, updT]
    rw [e] at h
    exact h
  · cases t with
    | kits => simp [cont, upS, updT]
    | kit j =>
      have : ¬ j = i := fun e => hn (by rw [e])
      simp [cont, upS_set hi, updT, this]
    | «strs» j =>
      simp only [cont, upS_set hi]
      split
      · rename_i e
        rw [e1, e]
      · rfl
    | miss j =>
      simp only [cont, upS_set hi]
      split
      · rename_i e
        rw [e2, e]
      · rfl
    | gone j =>
      have : ¬ j = i := fun e => hm (by rw [e])
      simp only [cont, upS_set hi, if_neg this]
    | _ => simp [cont, upS, updT] <;> rfl
  · rw [c1]
    simp [cont, upS_set hi]
/-- the list of what is gone changes in its place -/
theorem Lv.goneL (L : Lv K G A0 a0 H A D b a) {i : Nat} {g : List Nat} (hi : i < a.sets.length) : Lv K G A0 a0 (upd H (A (.gone i)) (.lst (vns g))) A D b (upS a i { a.set i with gone := g }) := by
  have h := L.up1 (t0 := .gone i) (a' := upS a i { a.set i with gone := g }) (b' := b) okS hi fun t ht hn => ?_
  · have e : cont K A D b (upS a i { a.set i with gone := g }) (.gone i) = .lst (vns g) := by
      simp only [cont, upS_set hi, if_pos]
    rw [e] at h
    exact h
  · cases t with
    | kits => simp only [cont, upS, List.length_set]
    | kit j =>
      simp only [cont, upS_set hi]
      split
      · rename_i e
        subst e
        rfl
      · rfl
    | «strs» j =>
      simp only [cont, upS_set hi]
      split
      · rename_i e
        subst e
        rfl
      · rfl
    | miss j =>
      simp only [cont, upS_set hi]
      split
      · rename_i e
        subst e
        rfl
      · rfl
    | gone j =>
      have : ¬ j = i := fun e => hn (by rw [e])
      simp only [cont, upS_set hi, if_neg this]
    | _ => rfl
theorem Lv.looseL (L : Lv K G A0 a0 H A D b a) {i : Nat} {g : List Nat} (hi : i < a.works.length) : Lv K G A0 a0 (upd H (A (.loose i)) (.lst (vns g))) A D b (upW a i { a.work i with loose := g }) := by
  have h := L.up1 (t0 := .loose i) (a' := upW a i { a.work i with loose := g }) (b' := b) okW hi fun t ht hn => ?_
  · have e : cont K A D b (upW a i { a.work i with loose := g }) (.loose i) = .lst (vns g) := by
      simp only [cont, upW_work hi, if_pos]
    rw [e] at h
    exact h
  · cases t with
    | works => simp only [cont, upW, List.length_set]
    | work j =>
      simp only [cont, upW_work hi]
      split
      · rename_i e
        subst e
        rfl
      · rfl
    | loose j =>
      have : ¬ j = i := fun e => hn (by rw [e])
      simp only [cont, upW_work hi, if_neg this]
    | _ => rfl
/-- a number of the whole library changes -/
theorem Lv.lib (L : Lv K G A0 a0 H A D b a) (e1 : a'.works = a.works) (e2 : a'.sets = a.sets) (e3 : a'.hires = a.hires) : Lv K G A0 a0 (upd H (A .lib) (.ins (He.ga K "Library") (D .lib) (lF b' a' (A .works) (A .kits) (A .hirs)))) A D b' a' := by
  refine L.up1 (t0 := .lib) (fun t => ?_) trivial fun t ht hn => ?_
  · cases t <;> simp [Tag.ok, e1, e2, e3]
  · cases t with
    | lib => exact absurd rfl hn
    | works => simp only [cont, e1]
    | kits => simp only [cont, e2]
    | hirs => simp only [cont, e3]
    | work i => simp only [cont, Kv321.Abs.work, e1]
    | loose i => simp only [cont, Kv321.Abs.work, e1]
    | kit i => simp only [cont, Kv321.Abs.set, e2]
    | «strs» i => simp only [cont, Kv321.Abs.set, e2]
    | miss i => simp only [cont, Kv321.Abs.set, e2]
    | gone i => simp only [cont, Kv321.Abs.set, e2]
    | hir i => simp only [cont, Kv321.Abs.hire, e3]
    | desks i => simp only [cont, Kv321.Abs.hire, e3]
    | put i => simp only [cont, Kv321.Abs.hire, e3]
theorem Own.sub {q : Addr} (hok : ∀ t : Tag, t.ok a' → t.ok a) (h : Own A a' q) : Own A a q := let ⟨t, h1, h2⟩ := h; ⟨t, hok t h1, h2⟩
end
end Pl

/-! ### what is put in, and how instances are made -/
namespace Pl
open PySem PySem.Spec PyProof.Rows L2
open Kv321 (Abs Hire Set_ at5 map5 five okDesks okDays)
theorem getD_app {α : Type} {l : List α} {v d : α} {j : Nat} : (l ++ [v]).getD j d = if j = l.length then v else l.getD j d := by
  rw [List.getD_eq_getElem?_getD, List.getD_eq_getElem?_getD]
  by_cases e : j = l.length
  · subst e
    rw [if_pos rfl]
    simp
  · rw [if_neg e]
    by_cases h : j < l.length
    · rw [List.getElem?_append_left h]
    · rw [List.getElem?_eq_none (by rw [List.length_append]; show l.length + 1 ≤ j; omega), List.getElem?_eq_none (by omega)]
def adW (a : Abs) (v : Kv321.Work) : Abs := { a with works := a.works ++ [v] }
def adS (a : Abs) (v : Set_) : Abs := { a with sets := a.sets ++ [v] }
def adH (a : Abs) (v : Hire) : Abs := { a with hires := a.hires ++ [v] }
theorem adW_work {a : Abs} {j : Nat} {v : Kv321.Work} : (adW a v).work j = if j = a.works.length then v else a.work j := getD_app
theorem adS_set {a : Abs} {j : Nat} {v : Set_} : (adS a v).set j = if j = a.sets.length then v else a.set j := getD_app
theorem adH_hire {a : Abs} {j : Nat} {v : Hire} : (adH a v).hire j = if j = a.hires.length then v else a.hire j := getD_app
section
variable {K : PySem.W.Frag} {mg : Str → Option Value} {G H H' : Hp} {A A0 D A' D' : Tag → Addr} {b b' : Bool} {a a0 a' : Abs} {p : Addr}
theorem Lv.growWork (L : Lv K G A0 a0 H A D b a) {v : Kv321.Work} {x dx q0 : Addr} (hx : H x = some (.ins (He.ga K "Work") dx (wF v q0))) (hq0 : H q0 = some (.lst (vns v.loose))) (nx : ¬ Own A a x) (gx : G x = none) (nq0 : ¬ Own A a q0) (gq0 : G q0 = none) :
    ∃ A' D', Lv K G A0 a0 (upd H (A .works) (.lst (refs (fun i => A (.work i)) a.works.length ++ [.ref x]))) A' D' b (adW a v) ∧ (∀ t : Tag, t.ok a → A' t = A t) ∧ A' (.work a.works.length) = x := by
  have ne : ∀ t : Tag, t.ok a → t ≠ Tag.work (a.works.length) ∧ t ≠ Tag.loose (a.works.length) := fun t ht => ⟨fun e => by rw [e] at ht; exact Nat.lt_irrefl _ ht, fun e => by rw [e] at ht; exact Nat.lt_irrefl _ ht⟩
  obtain ⟨A1, D1, hA, ax, aq0, adx⟩ : ∃ A1 D1 : Tag → Addr, (∀ t : Tag, t.ok a → A1 t = A t ∧ D1 t = D t) ∧ A1 (Tag.work (a.works.length)) = x ∧ A1 (Tag.loose (a.works.length)) = q0 ∧ D1 (Tag.work (a.works.length)) = dx := by
    refine ⟨(updT (updT A (Tag.work (a.works.length)) x) (Tag.loose (a.works.length)) q0), updT D (Tag.work (a.works.length)) dx, fun t ht => ?_, by simp [updT], by simp [updT], updT_at⟩
    obtain ⟨z0, z1⟩ := ne t ht
    exact ⟨by rw [updT_ne z1, updT_ne z0], updT_ne z0⟩
  have R1 := L.R.junk hA
  have ap : A1 .works = A .works := (hA .works trivial).1
  have own : ∀ q, Own A1 a q ↔ Own A a q := fun q => ⟨fun ⟨t, h1, h2⟩ => ⟨t, h1, by rw [← (hA t h1).1]; exact h2⟩, fun ⟨t, h1, h2⟩ => ⟨t, h1, by rw [(hA t h1).1]; exact h2⟩⟩
  have hok : ∀ t : Tag, t.ok (adW a v) → t.ok a ∨ (t = Tag.work (a.works.length) ∨ t = Tag.loose (a.works.length)) := fun t ht => by
    cases t with
    | «work» j =>
      have h1 : j < (a.works ++ [v]).length := ht
      rw [List.length_append] at h1
      have h2 : j < a.works.length + 1 := h1
      by_cases e : j = a.works.length
      · subst e
        exact Or.inr (by simp)
      · exact Or.inl (show j < a.works.length by omega)
    | «loose» j =>
      have h1 : j < (a.works ++ [v]).length := ht
      rw [List.length_append] at h1
      have h2 : j < a.works.length + 1 := h1
      by_cases e : j = a.works.length
      · subst e
        exact Or.inr (by simp)
      · exact Or.inl (show j < a.works.length by omega)
    | _ => exact Or.inl ht
  have Rg := R1.grow (t0 := .works) (a' := adW a v) (N := fun t => t = Tag.work (a.works.length) ∨ t = Tag.loose (a.works.length)) hok trivial (fun t ht hn => ?_) (fun t ht => ?_) (fun t ht => ?_) (fun t u ht hu z => ?_)
  · refine ⟨A1, D1, ⟨?_, ?_, ?_⟩, fun t ht => (hA t ht).1, ax⟩
    · rw [ap] at Rg
      have e : cont K A1 D1 b (adW a v) .works = .lst (refs (fun i => A (.work i)) a.works.length ++ [.ref x]) := by
        show HO.lst (refs _ (a.works ++ [v]).length) = _
        rw [List.length_append]
        show HO.lst (refs _ (a.works.length + 1)) = _
        rw [refs_succ]
        refine congrArg HO.lst ?_
        congr 1
        · exact refs_congr fun i hi => (hA (.work i) hi).1
        · exact congrArg (fun z => [V.ref z]) ax
      rw [e] at Rg
      exact Rg
    · refine L.S.upd (Or.inl ⟨.works, trivial, rfl⟩) fun q ⟨t, h1, h2⟩ => ?_
      rcases hok t h1 with h3 | h3
      · rw [(hA t h3).1] at h2
        exact Or.inl ⟨t, h3, h2⟩
      · right
        rcases h3 with e | e
        · rw [e, ax] at h2
          rw [← h2]
          exact gx
        · rw [e, aq0] at h2
          rw [← h2]
          exact gq0
    · rw [(hA .lib trivial).1]
      exact L.l
  · cases t with
    | works => exact absurd rfl hn
    | «work» j =>
      have h1 : j < a.works.length := ht
      have h2 : ¬ j = a.works.length := by omega
      simp only [cont, adW_work, if_neg h2]
    | «loose» j =>
      have h1 : j < a.works.length := ht
      have h2 : ¬ j = a.works.length := by omega
      simp only [cont, adW_work, if_neg h2]
    | _ => rfl
  · rcases ht with e | e
    · rw [e]
      simp only [cont]
      rw [ax, aq0, adW_work, if_pos rfl, adx]
      exact hx
    · rw [e]
      simp only [cont]
      rw [aq0, adW_work, if_pos rfl]
      exact hq0
  · rw [own]
    rcases ht with e | e
    · rw [e, ax]
      exact nx
    · rw [e, aq0]
      exact nq0
  · rcases ht with e | e <;> rcases hu with e2 | e2 <;> rw [e, e2] at z ⊢
    · rw [ax, aq0] at z
      rw [z, hq0] at hx
      cases hx
    · rw [aq0, ax] at z
      rw [← z, hq0] at hx
      cases hx
theorem Lv.growKit (L : Lv K G A0 a0 H A D b a) {v : Set_} {x dx q0 q1 q2 : Addr} (hx : H x = some (.ins (He.ga K "Kit") dx (kF v q0 q1 q2))) (hq0 : H q0 = some (.lst (vns v.strings))) (hq1 : H q1 = some (.lst (vns v.missing))) (hq2 : H q2 = some (.lst (vns v.gone))) (nx : ¬ Own A a x) (gx : G x = none) (nq0 : ¬ Own A a q0) (gq0 : G q0 = none) (nq1 : ¬ Own A a q1) (gq1 : G q1 = none) (nq2 : ¬ Own A a q2) (gq2 : G q2 = none) (d01 : q0 ≠ q1) (d02 : q0 ≠ q2) (d12 : q1 ≠ q2) :
    ∃ A' D', Lv K G A0 a0 (upd H (A .kits) (.lst (refs (fun i => A (.kit i)) a.sets.length ++ [.ref x]))) A' D' b (adS a v) ∧ (∀ t : Tag, t.ok a → A' t = A t) ∧ A' (.kit a.sets.length) = x := by
  have ne : ∀ t : Tag, t.ok a → t ≠ Tag.kit (a.sets.length) ∧ t ≠ Tag.strs (a.sets.length) ∧ t ≠ Tag.miss (a.sets.length) ∧ t ≠ Tag.gone (a.sets.length) := fun t ht => ⟨fun e => by rw [e] at ht; exact Nat.lt_irrefl _ ht, fun e => by rw [e] at ht; exact Nat.lt_irrefl _ ht, fun e => by rw [e] at ht; exact Nat.lt_irrefl _ ht, fun e => by rw [e] at ht; exact Nat.lt_irrefl _ ht⟩
  obtain ⟨A1, D1, hA, ax, aq0, aq1, aq2, adx⟩ : ∃ A1 D1 : Tag → Addr, (∀ t : Tag, t.ok a → A1 t = A t ∧ D1 t = D t) ∧ A1 (Tag.kit (a.sets.length)) = x ∧ A1 (Tag.strs (a.sets.length)) = q0 ∧ A1 (Tag.miss (a.sets.length)) = q1 ∧ A1 (Tag.gone (a.sets.length)) = q2 ∧ D1 (Tag.kit (a.sets.length)) = dx := by
    refine ⟨(updT (updT (updT (updT A (Tag.kit (a.sets.length)) x) (Tag.strs (a.sets.length)) q0) (Tag.miss (a.sets.length)) q1) (Tag.gone (a.sets.length)) q2), updT D (Tag.kit (a.sets.length)) dx, fun t ht => ?_, by simp [updT], by simp [updT], by simp [updT], by simp [updT], updT_at⟩
    obtain ⟨z0, z1, z2, z3⟩ := ne t ht
    exact ⟨by rw [updT_ne z3, updT_ne z2, updT_ne z1, updT_ne z0], updT_ne z0⟩
  have R1 := L.R.junk hA
  have ap : A1 .kits = A .kits := (hA .kits trivial).1
  have own : ∀ q, Own A1 a q ↔ Own A a q := fun q => ⟨fun ⟨t, h1, h2⟩ => ⟨t, h1, by rw [← (hA t h1).1]; exact h2⟩, fun ⟨t, h1, h2⟩ => ⟨t, h1, by rw [(hA t h1).1]; exact h2⟩⟩
  have hok : ∀ t : Tag, t.ok (adS a v) → t.ok a ∨ (t = Tag.kit (a.sets.length) ∨ t = Tag.strs (a.sets.length) ∨ t = Tag.miss (a.sets.length) ∨ t = Tag.gone (a.sets.length)) := fun t ht => by
    cases t with
    | «kit» j =>
      have h1 : j < (a.sets ++ [v]).length := ht
      rw [List.length_append] at h1
      have h2 : j < a.sets.length + 1 := h1
      by_cases e : j = a.sets.length
      · subst e
        exact Or.inr (by simp)
      · exact Or.inl (show j < a.sets.length by omega)
    | «strs» j =>
      have h1 : j < (a.sets ++ [v]).length := ht
      rw [List.length_append] at h1
      have h2 : j < a.sets.length + 1 := h1
      by_cases e : j = a.sets.length
      · subst e
        exact Or.inr (by simp)
      · exact Or.inl (show j < a.sets.length by omega)
    | «miss» j =>
      have h1 : j < (a.sets ++ [v]).length := ht
      rw [List.length_append] at h1
      have h2 : j < a.sets.length + 1 := h1
      by_cases e : j = a.sets.length
      · subst e
        exact Or.inr (by simp)
      · exact Or.inl (show j < a.sets.length by omega)
    | «gone» j =>
      have h1 : j < (a.sets ++ [v]).length := ht
      rw [List.length_append] at h1
      have h2 : j < a.sets.length + 1 := h1
      by_cases e : j = a.sets.length
      · subst e
        exact Or.inr (by simp)
      · exact Or.inl (show j < a.sets.length by omega)
    | _ => exact Or.inl ht
  have Rg := R1.grow (t0 := .kits) (a' := adS a v) (N := fun t => t = Tag.kit (a.sets.length) ∨ t = Tag.strs (a.sets.length) ∨ t = Tag.miss (a.sets.length) ∨ t = Tag.gone (a.sets.length)) hok trivial (fun t ht hn => ?_) (fun t ht => ?_) (fun t ht => ?_) (fun t u ht hu z => ?_)
  · refine ⟨A1, D1, ⟨?_, ?_, ?_⟩, fun t ht => (hA t ht).1, ax⟩
    · rw [ap] at Rg
      have e : cont K A1 D1 b (adS a v) .kits = .lst (refs (fun i => A (.kit i)) a.sets.length ++ [.ref x]) := by
        show HO.lst (refs _ (a.sets ++ [v]).length) = _
        rw [List.length_append]
        show HO.lst (refs _ (a.sets.length + 1)) = _
        rw [refs_succ]
        refine congrArg HO.lst ?_
        congr 1
        · exact refs_congr fun i hi => (hA (.kit i) hi).1
        · exact congrArg (fun z => [V.ref z]) ax
      rw [e] at Rg
      exact Rg
    · refine L.S.upd (Or.inl ⟨.kits, trivial, rfl⟩) fun q ⟨t, h1, h2⟩ => ?_
      rcases hok t h1 with h3 | h3
      · rw [(hA t h3).1] at h2
        exact Or.inl ⟨t, h3, h2⟩
      · right
        rcases h3 with e | e | e | e
        · rw [e, ax] at h2
          rw [← h2]
          exact gx
        · rw [e, aq0] at h2
          rw [← h2]
          exact gq0
        · rw [e, aq1] at h2
          rw [← h2]
          exact gq1
        · rw [e, aq2] at h2
          rw [← h2]
          exact gq2
    · rw [(hA .lib trivial).1]
      exact L.l
  · cases t with
    | kits => exact absurd rfl hn
    | «kit» j =>
      have h1 : j < a.sets.length := ht
      have h2 : ¬ j = a.sets.length := by omega
      simp only [cont, adS_set, if_neg h2]
    | «strs» j =>
      have h1 : j < a.sets.length := ht
      have h2 : ¬ j = a.sets.length := by omega
      simp only [cont, adS_set, if_neg h2]
    | «miss» j =>
      have h1 : j < a.sets.length := ht
      have h2 : ¬ j = a.sets.length := by omega
      simp only [cont, adS_set, if_neg h2]
    | «gone» j =>
      have h1 : j < a.sets.length := ht
      have h2 : ¬ j = a.sets.length := by omega
      simp only [cont, adS_set, if_neg h2]
    | _ => rfl
  · rcases ht with e | e | e | e
    · rw [e]
      simp only [cont]
      rw [ax, aq0, aq1, aq2, adS_set, if_pos rfl, adx]
      exact hx
    · rw [e]
      simp only [cont]
      rw [aq0, adS_set, if_pos rfl]
      exact hq0
    · rw [e]
      simp only [cont]
      rw [aq1, adS_set, if_pos rfl]
      exact hq1
    · rw [e]
      simp only [cont]
      rw [aq2, adS_set, if_pos rfl]
      exact hq2
  · rw [own]
    rcases ht with e | e | e | e
    · rw [e, ax]
      exact nx
    · rw [e, aq0]
      exact nq0
    · rw [e, aq1]
      exact nq1
    · rw [e, aq2]
      exact nq2
  · rcases ht with e | e | e | e <;> rcases hu with e2 | e2 | e2 | e2 <;> rw [e, e2] at z ⊢
    · rw [ax, aq0] at z
      rw [z, hq0] at hx
      cases hx
    · rw [ax, aq1] at z
      rw [z, hq1] at hx
      cases hx
    · rw [ax, aq2] at z
      rw [z, hq2] at hx
      cases hx
    · rw [aq0, ax] at z
      rw [← z, hq0] at hx
      cases hx
    · rw [aq0, aq1] at z
      exact absurd z d01
    · rw [aq0, aq2] at z
      exact absurd z d02
    · rw [aq1, ax] at z
      rw [← z, hq1] at hx
      cases hx
    · rw [aq1, aq0] at z
      exact absurd z.symm d01
    · rw [aq1, aq2] at z
      exact absurd z d12
    · rw [aq2, ax] at z
      rw [← z, hq2] at hx
      cases hx
    · rw [aq2, aq0] at z
      exact absurd z.symm d02
    · rw [aq2, aq1] at z
      exact absurd z.symm d12
theorem Lv.growHiring (L : Lv K G A0 a0 H A D b a) {v : Hire} {x dx q0 q1 : Addr} (hx : H x = some (.ins (He.ga K "Hiring") dx (hF v q0 q1))) (hq0 : H q0 = some (.lst (vns v.desks))) (hq1 : H q1 = some (.lst (vns v.loose))) (nx : ¬ Own A a x) (gx : G x = none) (nq0 : ¬ Own A a q0) (gq0 : G q0 = none) (nq1 : ¬ Own A a q1) (gq1 : G q1 = none) (d01 : q0 ≠ q1) :
    ∃ A' D', Lv K G A0 a0 (upd H (A .hirs) (.lst (refs (fun i => A (.hir i)) a.hires.length ++ [.ref x]))) A' D' b (adH a v) ∧ (∀ t : Tag, t.ok a → A' t = A t) ∧ A' (.hir a.hires.length) = x := by
  have ne : ∀ t : Tag, t.ok a → t ≠ Tag.hir (a.hires.length) ∧ t ≠ Tag.desks (a.hires.length) ∧ t ≠ Tag.put (a.hires.length) := fun t ht => ⟨fun e => by rw [e] at ht; exact Nat.lt_irrefl _ ht, fun e => by rw [e] at ht; exact Nat.lt_irrefl _ ht, fun e => by rw [e] at ht; exact Nat.lt_irrefl _ ht⟩
  obtain ⟨A1, D1, hA, ax, aq0, aq1, adx⟩ : ∃ A1 D1 : Tag → Addr, (∀ t : Tag, t.ok a → A1 t = A t ∧ D1 t = D t) ∧ A1 (Tag.hir (a.hires.length)) = x ∧ A1 (Tag.desks (a.hires.length)) = q0 ∧ A1 (Tag.put (a.hires.length)) = q1 ∧ D1 (Tag.hir (a.hires.length)) = dx := by
    refine ⟨(updT (updT (updT A (Tag.hir (a.hires.length)) x) (Tag.desks (a.hires.length)) q0) (Tag.put (a.hires.length)) q1), updT D (Tag.hir (a.hires.length)) dx, fun t ht => ?_, by simp [updT], by simp [updT], by simp [updT], updT_at⟩
    obtain ⟨z0, z1, z2⟩ := ne t ht
    exact ⟨by rw [updT_ne z2, updT_ne z1, updT_ne z0], updT_ne z0⟩
  have R1 := L.R.junk hA
  have ap : A1 .hirs = A .hirs := (hA .hirs trivial).1
  have own : ∀ q, Own A1 a q ↔ Own A a q := fun q => ⟨fun ⟨t, h1, h2⟩ => ⟨t, h1, by rw [← (hA t h1).1]; exact h2⟩, fun ⟨t, h1, h2⟩ => ⟨t, h1, by rw [(hA t h1).1]; exact h2⟩⟩
  have hok : ∀ t : Tag, t.ok (adH a v) → t.ok a ∨ (t = Tag.hir (a.hires.length) ∨ t = Tag.desks (a.hires.length) ∨ t = Tag.put (a.hires.length)) := fun t ht => by
    cases t with
    | «hir» j =>
      have h1 : j < (a.hires ++ [v]).length := ht
      rw [List.length_append] at h1
      have h2 : j < a.hires.length + 1 := h1
      by_cases e : j = a.hires.length
      · subst e
        exact Or.inr (by simp)
      · exact Or.inl (show j < a.hires.length by omega)
    | «desks» j =>
      have h1 : j < (a.hires ++ [v]).length := ht
      rw [List.length_append] at h1
      have h2 : j < a.hires.length + 1 := h1
      by_cases e : j = a.hires.length
      · subst e
        exact Or.inr (by simp)
      · exact Or.inl (show j < a.hires.length by omega)
    | «put» j =>
      have h1 : j < (a.hires ++ [v]).length := ht
      rw [List.length_append] at h1
      have h2 : j < a.hires.length + 1 := h1
      by_cases e : j = a.hires.length
      · subst e
        exact Or.inr (by simp)
      · exact Or.inl (show j < a.hires.length by omega)
    | _ => exact Or.inl ht
  have Rg := R1.grow (t0 := .hirs) (a' := adH a v) (N := fun t => t = Tag.hir (a.hires.length) ∨ t = Tag.desks (a.hires.length) ∨ t = Tag.put (a.hires.length)) hok trivial (fun t ht hn => ?_) (fun t ht => ?_) (fun t ht => ?_) (fun t u ht hu z => ?_)
  · refine ⟨A1, D1, ⟨?_, ?_, ?_⟩, fun t ht => (hA t ht).1, ax⟩
    · rw [ap] at Rg
      have e : cont K A1 D1 b (adH a v) .hirs = .lst (refs (fun i => A (.hir i)) a.hires.length ++ [.ref x]) := by
        show HO.lst (refs _ (a.hires ++ [v]).length) = _
        rw [List.length_append]
        show HO.lst (refs _ (a.hires.length + 1)) = _
        rw [refs_succ]
        refine congrArg HO.lst ?_
        congr 1
        · exact refs_congr fun i hi => (hA (.hir i) hi).1
        · exact congrArg (fun z => [V.ref z]) ax
      rw [e] at Rg
      exact Rg
    · refine L.S.upd (Or.inl ⟨.hirs, trivial, rfl⟩) fun q ⟨t, h1, h2⟩ => ?_
      rcases hok t h1 with h3 | h3
      · rw [(hA t h3).1] at h2
        exact Or.inl ⟨t, h3, h2⟩
      · right
        rcases h3 with e | e | e
        · rw [e, ax] at h2
          rw [← h2]
          exact gx
        · rw [e, aq0] at h2
          rw [← h2]
          exact gq0
        · rw [e, aq1] at h2
          rw [← h2]
          exact gq1
    · rw [(hA .lib trivial).1]
      exact L.l
  · cases t with
    | hirs => exact absurd rfl hn
    | «hir» j =>
      have h1 : j < a.hires.length := ht
      have h2 : ¬ j = a.hires.length := by omega
      simp only [cont, adH_hire, if_neg h2]
    | «desks» j =>
      have h1 : j < a.hires.length := ht
      have h2 : ¬ j = a.hires.length := by omega
      simp only [cont, adH_hire, if_neg h2]
    | «put» j =>
      have h1 : j < a.hires.length := ht
      have h2 : ¬ j = a.hires.length := by omega
      simp only [cont, adH_hire, if_neg h2]
    | _ => rfl
  · rcases ht with e | e | e
    · rw [e]
      simp only [cont]
      rw [ax, aq0, aq1, adH_hire, if_pos rfl, adx]
      exact hx
    · rw [e]
      simp only [cont]
      rw [aq0, adH_hire, if_pos rfl]
      exact hq0
    · rw [e]
      simp only [cont]
      rw [aq1, adH_hire, if_pos rfl]
      exact hq1
  · rw [own]
    rcases ht with e | e | e
    · rw [e, ax]
      exact nx
    · rw [e, aq0]
      exact nq0
    · rw [e, aq1]
      exact nq1
  · rcases ht with e | e | e <;> rcases hu with e2 | e2 | e2 <;> rw [e, e2] at z ⊢
    · rw [ax, aq0] at z
      rw [z, hq0] at hx
      cases hx
    · rw [ax, aq1] at z
      rw [z, hq1] at hx
      cases hx
    · rw [aq0, ax] at z
      rw [← z, hq0] at hx
      cases hx
    · rw [aq0, aq1] at z
      exact absurd z d01
    · rw [aq1, ax] at z
      rw [← z, hq1] at hx
      cases hx
    · rw [aq1, aq0] at z
      exact absurd z.symm d01
theorem lt1k {n : Nat} (h : Nat.ble (n + 1) 1000 = true) : n < 1000 := Nat.le_of_ble_eq_true h
theorem Exx.ex {x : Addr} {H1 H2 : Hp} (h : Exx x H H1) (e : Ex H1 H2) : Exx x H H2 := fun q o n hq => e _ _ (h q o n hq)
theorem Exx.upd {x : Addr} {H1 : Hp} {o : HO} (h : Exx x H H1) : Exx x H (upd H1 x o) := fun q u n hq => by
  rw [upd_ne n]
  exact h q u n hq
theorem Exx.refl {x : Addr} : Exx x H H := fun _ _ _ h => h
theorem Exx.fresh {x l : Addr} {H1 : Hp} {o : HO} (h : Exx x H H1) (hl : H1 l = none) (hx : H1 x = some o) : H l = none := by
  cases e : H l with
  | none => rfl
  | some u =>
    have n : l ≠ x := fun z => by
      rw [z, hx] at hl
      cases hl
    rw [h l u n e] at hl
    cases hl
variable {σ : L2.St} {te ta tb tv to : TE} {d : Dsc} {v : V} {DD : Ends} {tw : TS} {x dx C : Addr} {fs : List (Str × V)} {f : Str} {vs : List V} {Q : VK} {E : XK}
theorem cps_fld0 (hx : H x = some (.ins C dx fs)) (hc : Cls K C) (hn : NoAttr K C f) (hl : fs.length < 1000) (hv : Ev tv σ H d) (ho : Ev to σ H (dV (.ref x))) (k : ∀ v H1, Ex H H1 → d.is H v H1 → DD.nx σ (upd H1 x (.ins C dx (putF f v fs)))) : sFld K to tv f DD σ H :=
  hv H (Ex.refl H) _ fun v H1 e1 h1 => ho H1 e1 _ fun w H2 e2 hw => by
    subst hw
    exact ⟨x, C, dx, fs, rfl, (e1.trans e2) _ _ hx, hc, hn, hl, k v H2 (e1.trans e2) (d.up e2 h1)⟩
theorem cps_fld (hx : H x = some (.ins C dx fs)) (hc : Cls K C) (hn : NoAttr K C f) (hl : fs.length < 1000) (hv : Ev tv σ H d) (ho : Ev to σ H (dV (.ref x))) (k : ∀ v H1, Ex H H1 → d.is H v H1 → tw DD σ (upd H1 x (.ins C dx (putF f v fs)))) : tSeq (sFld K to tv f) tw DD σ H :=
  cps_fld0 (DD := { DD with nx := tw DD }) hx hc hn hl hv ho k
theorem cps_fldAug {i j : Int} (hx : H x = some (.ins C dx fs)) (hc : Cls K C) (hn : NoAttr K C f) (hl : fs.length < 1000) (hf : fs.lookup f = some (.int i)) (hv : Ev tv σ H (dV (.int j))) (ho : Ev to σ H (dV (.ref x))) (k : ∀ H1, Ex H H1 → tw DD σ (upd H1 x (.ins C dx (putF f (.int (i + j)) fs)))) : tSeq (sFldAug K to tv rAdd f) tw DD σ H :=
  ho H (Ex.refl H) _ fun w H1 e1 hw => by
    subst hw
    refine ⟨x, C, dx, fs, _, rfl, e1 _ _ hx, hc, hn, hf, hv H1 e1 _ fun y H2 e2 hy => ?_⟩
    subst hy
    exact ⟨i, j, rfl, rfl, dx, fs, (e1.trans e2) _ _ hx, hl, k H2 (e1.trans e2)⟩
theorem cps_nw0 {fs' : List (Str × V)} (X : Exx x G H) (hx : H x = some (.ins C dx fs)) (hc : Cls K C) (hn : NoAttr K C f) (hl : fs.length < 1000) (hv : Ev tv σ H (dV v)) (ho : Ev to σ H (dV (.ref x))) (e : putF f v fs = fs')
    (k : ∀ H1, Exx x G H1 → Exx x H H1 → H1 x = some (.ins C dx fs') → DD.nx σ H1) : sFld K to tv f DD σ H :=
  cps_fld0 hx hc hn hl hv ho fun w H1 e1 h1 => by
    have h1' : w = v := h1
    rw [h1', e]
    exact k _ ((X.ex e1).upd) ((Exx.refl.ex e1).upd) upd_same
theorem cps_nw {fs' : List (Str × V)} (X : Exx x G H) (hx : H x = some (.ins C dx fs)) (hc : Cls K C) (hn : NoAttr K C f) (hl : fs.length < 1000) (hv : Ev tv σ H (dV v)) (ho : Ev to σ H (dV (.ref x))) (e : putF f v fs = fs')
    (k : ∀ H1, Exx x G H1 → Exx x H H1 → H1 x = some (.ins C dx fs') → tw DD σ H1) : tSeq (sFld K to tv f) tw DD σ H := cps_nw0 (DD := { DD with nx := tw DD }) X hx hc hn hl hv ho e k
theorem cps_nwL0 {xs : List V} {fs' : Addr → List (Str × V)} (X : Exx x G H) (hx : H x = some (.ins C dx fs)) (hc : Cls K C) (hn : NoAttr K C f) (hl : fs.length < 1000) (hv : Ev tv σ H (dN xs)) (ho : Ev to σ H (dV (.ref x))) (e : ∀ l, putF f (.ref l) fs = fs' l)
    (k : ∀ l H1, Exx x G H1 → Exx x H H1 → H1 x = some (.ins C dx (fs' l)) → H l = none → l ≠ x → H1 l = some (.lst xs) → DD.nx σ H1) : sFld K to tv f DD σ H :=
  cps_fld0 hx hc hn hl hv ho fun w H1 e1 ⟨l, h1, h2, h3⟩ => by
    have n : l ≠ x := Ne.symm (ne_of_none hx h2)
    rw [h1, e]
    exact k l _ ((X.ex e1).upd) ((Exx.refl.ex e1).upd) upd_same h2 n (by rw [upd_ne n]; exact h3)
theorem cps_nwL {xs : List V} {fs' : Addr → List (Str × V)} (X : Exx x G H) (hx : H x = some (.ins C dx fs)) (hc : Cls K C) (hn : NoAttr K C f) (hl : fs.length < 1000) (hv : Ev tv σ H (dN xs)) (ho : Ev to σ H (dV (.ref x))) (e : ∀ l, putF f (.ref l) fs = fs' l)
    (k : ∀ l H1, Exx x G H1 → Exx x H H1 → H1 x = some (.ins C dx (fs' l)) → H l = none → l ≠ x → H1 l = some (.lst xs) → tw DD σ H1) : tSeq (sFld K to tv f) tw DD σ H := cps_nwL0 (DD := { DD with nx := tw DD }) X hx hc hn hl hv ho e k
abbrev Fn (t : TS) (N : List Str) (vs : List V) (H : Hp) (Q : VK) : Prop := t { nx := fun _ H' => Q .non H', rt := Q } (start N vs) H
theorem rd_init_Work (T : Txt K mg) (h : sp_init_Work K vs H Q E) : Fn (t_init_Work K) N_init_Work vs H Q := by
  obtain ⟨x, dx, n, f, m, p, rfl, hx, q⟩ := h
  have X : Exx x H H := Exx.refl
  refine cps_nw X hx T.c_Work T.n_Work_winds (lt1k rfl) (ev_var rfl) (ev_var rfl) (nw_Work_winds _ ) fun H0 X0 Y0 x0 => ?_
  refine cps_nw X0 x0 T.c_Work T.n_Work_fee (lt1k rfl) (ev_var rfl) (ev_var rfl) (nw_Work_fee _ _ ) fun H1 X1 Y1 x1 => ?_
  refine cps_nw X1 x1 T.c_Work T.n_Work_more (lt1k rfl) (ev_var rfl) (ev_var rfl) (nw_Work_more _ _ _ ) fun H2 X2 Y2 x2 => ?_
  refine cps_nw X2 x2 T.c_Work T.n_Work_price (lt1k rfl) (ev_var rfl) (ev_var rfl) (nw_Work_price _ _ _ _ ) fun H3 X3 Y3 x3 => ?_
  refine cps_nwL0 X3 x3 T.c_Work T.n_Work_loose (lt1k rfl) (el_rep0 ev_c) (ev_var rfl) (fun l => nw_Work_loose (.ref l) _ _ _ _ ) fun l4 H4 X4 Y4 x4 f4 n4 h4 => ?_
  exact q l4 _ (X3.fresh f4 x3) X4 x4 h4
theorem rd_init_Kit (T : Txt K mg) (h : sp_init_Kit K vs H Q E) : Fn (t_init_Kit K) N_init_Kit vs H Q := by
  obtain ⟨x, dx, w, d, rfl, hx, q⟩ := h
  have X : Exx x H H := Exx.refl
  refine cps_nw X hx T.c_Kit T.n_Kit_work (lt1k rfl) (ev_var rfl) (ev_var rfl) (nw_Kit_work _ ) fun H0 X0 Y0 x0 => ?_
  refine cps_nw X0 x0 T.c_Kit T.n_Kit_strings (lt1k rfl) (ev_var rfl) (ev_var rfl) (nw_Kit_strings _ _ ) fun H1 X1 Y1 x1 => ?_
  refine cps_nwL X1 x1 T.c_Kit T.n_Kit_missing (lt1k rfl) el_nil (ev_var rfl) (fun l => nw_Kit_missing (.ref l) _ _ ) fun l2 H2 X2 Y2 x2 f2 n2 h2 => ?_
  refine cps_nwL X2 x2 T.c_Kit T.n_Kit_gone (lt1k rfl) (el_rep0 ev_c) (ev_var rfl) (fun l => nw_Kit_gone (.ref l) _ _ _ ) fun l3 H3 X3 Y3 x3 f3 n3 h3 => ?_
  refine cps_nw0 X3 x3 T.c_Kit T.n_Kit_marked (lt1k rfl) ev_c (ev_var rfl) (nw_Kit_marked _ _ _ _ _ ) fun H4 X4 Y4 x4 => ?_
  exact q l2 l3 _ (X1.fresh f2 x1) (X2.fresh f3 x2) (ne_of_none h2 f3) X4 x4 (Y4 _ _ n2 (Y3 _ _ n2 h2)) (Y4 _ _ n3 h3)
theorem rd_init_Hiring (T : Txt K mg) (h : sp_init_Hiring K vs H Q E) : Fn (t_init_Hiring K) N_init_Hiring vs H Q := by
  obtain ⟨x, dx, w, f, n, c, cl, d, rfl, hx, q⟩ := h
  have X : Exx x H H := Exx.refl
  refine cps_nw X hx T.c_Hiring T.n_Hiring_work (lt1k rfl) (ev_var rfl) (ev_var rfl) (nw_Hiring_work _ ) fun H0 X0 Y0 x0 => ?_
  refine cps_nw X0 x0 T.c_Hiring T.n_Hiring_first (lt1k rfl) (ev_var rfl) (ev_var rfl) (nw_Hiring_first _ _ ) fun H1 X1 Y1 x1 => ?_
  refine cps_nw X1 x1 T.c_Hiring T.n_Hiring_spell (lt1k rfl) (ev_var rfl) (ev_var rfl) (nw_Hiring_spell _ _ _ ) fun H2 X2 Y2 x2 => ?_
  refine cps_nw X2 x2 T.c_Hiring T.n_Hiring_concerts (lt1k rfl) (ev_var rfl) (ev_var rfl) (nw_Hiring_concerts _ _ _ _ ) fun H3 X3 Y3 x3 => ?_
  refine cps_nw X3 x3 T.c_Hiring T.n_Hiring_clean (lt1k rfl) (ev_var rfl) (ev_var rfl) (nw_Hiring_clean _ _ _ _ _ ) fun H4 X4 Y4 x4 => ?_
  refine cps_nw X4 x4 T.c_Hiring T.n_Hiring_desks (lt1k rfl) (ev_var rfl) (ev_var rfl) (nw_Hiring_desks _ _ _ _ _ _ ) fun H5 X5 Y5 x5 => ?_
  refine cps_nw X5 x5 T.c_Hiring T.n_Hiring_kit (lt1k rfl) ev_c (ev_var rfl) (nw_Hiring_kit _ _ _ _ _ _ _ ) fun H6 X6 Y6 x6 => ?_
  refine cps_nwL X6 x6 T.c_Hiring T.n_Hiring_put (lt1k rfl) (el_rep0 ev_c) (ev_var rfl) (fun l => nw_Hiring_put (.ref l) _ _ _ _ _ _ _ ) fun l7 H7 X7 Y7 x7 f7 n7 h7 => ?_
  refine cps_nw0 X7 x7 T.c_Hiring T.n_Hiring_how (lt1k rfl) ev_c (ev_var rfl) (nw_Hiring_how _ _ _ _ _ _ _ _ _ ) fun H8 X8 Y8 x8 => ?_
  exact q l7 _ (X6.fresh f7 x6) X8 x8 (Y8 _ _ n7 h7)
theorem rd_init_Library (T : Txt K mg) (h : sp_init_Library K vs H Q E) : Fn (t_init_Library K) N_init_Library vs H Q := by
  obtain ⟨x, dx, rfl, hx, q⟩ := h
  have X : Exx x H H := Exx.refl
  refine cps_nw X hx T.c_Library T.n_Library_is_begun (lt1k rfl) ev_c (ev_var rfl) (nw_Library_is_begun _ ) fun H0 X0 Y0 x0 => ?_
  refine cps_nw X0 x0 T.c_Library T.n_Library_turn (lt1k rfl) ev_c (ev_var rfl) (nw_Library_turn _ _ ) fun H1 X1 Y1 x1 => ?_
  refine cps_nw X1 x1 T.c_Library T.n_Library_fine (lt1k rfl) ev_c (ev_var rfl) (nw_Library_fine _ _ _ ) fun H2 X2 Y2 x2 => ?_
  refine cps_nw X2 x2 T.c_Library T.n_Library_today (lt1k rfl) ev_c (ev_var rfl) (nw_Library_today _ _ _ _ ) fun H3 X3 Y3 x3 => ?_
  refine cps_nwL X3 x3 T.c_Library T.n_Library_works (lt1k rfl) el_nil (ev_var rfl) (fun l => nw_Library_works (.ref l) _ _ _ _ ) fun l4 H4 X4 Y4 x4 f4 n4 h4 => ?_
  refine cps_nwL X4 x4 T.c_Library T.n_Library_kits (lt1k rfl) el_nil (ev_var rfl) (fun l => nw_Library_kits (.ref l) _ _ _ _ _ ) fun l5 H5 X5 Y5 x5 f5 n5 h5 => ?_
  refine cps_nwL X5 x5 T.c_Library T.n_Library_hirings (lt1k rfl) el_nil (ev_var rfl) (fun l => nw_Library_hirings (.ref l) _ _ _ _ _ _ ) fun l6 H6 X6 Y6 x6 f6 n6 h6 => ?_
  refine cps_nw X6 x6 T.c_Library T.n_Library_paid (lt1k rfl) ev_c (ev_var rfl) (nw_Library_paid _ _ _ _ _ _ _ _ ) fun H7 X7 Y7 x7 => ?_
  refine cps_nw0 X7 x7 T.c_Library T.n_Library_replaced (lt1k rfl) ev_c (ev_var rfl) (nw_Library_replaced _ _ _ _ _ _ _ _ _ ) fun H8 X8 Y8 x8 => ?_
  exact q l4 l5 l6 _ (X3.fresh f4 x3) (X4.fresh f5 x4) (X5.fresh f6 x5) (ne_of_none h4 f5) (ne_of_none (Y5 _ _ n4 h4) f6) (ne_of_none h5 f6) X8 x8 (Y8 _ _ n4 (Y7 _ _ n4 (Y6 _ _ n4 (Y5 _ _ n4 h4)))) (Y8 _ _ n5 (Y7 _ _ n5 (Y6 _ _ n5 h5))) (Y8 _ _ n6 (Y7 _ _ n6 h6))
end
end Pl

/-! ### deeds: what they share -/
namespace Pl
open PySem PySem.Spec PyProof.Rows L2
open Kv321 (Abs Hire Set_ at5 map5 five okDesks okDays)
section
variable {K : PySem.W.Frag} {mg : Str → Option Value} {G H H' : Hp} {A A0 D A' D' : Tag → Addr} {b b' : Bool} {a a0 a' : Abs} {p : Addr}
variable {σ : L2.St} {te ta tb tc td tf tv to : TE} {d : Dsc} {v : V} {DD : Ends} {ts tr tw : TS} {x dx C : Addr} {fs : List (Str × V)} {f : Str} {vs : List V} {Q : VK} {E : XK} {P : Post} {c : Kv321.Call}
/-! instances made -/
theorem make_none {H2 : Hp} {o1 o2 : HO} {m : Addr} (h : upd (upd H2 dx o1) x o2 m = none) : m ≠ x ∧ H2 m = none := by
  have n : m ≠ x := fun z => by
    rw [z, upd_same] at h
    cases h
  rw [upd_ne n] at h
  have n2 : m ≠ dx := fun z => by
    rw [z, upd_same] at h
    cases h
  rw [upd_ne n2] at h
  exact ⟨n, h⟩
theorem make_ex {H2 H3 : Hp} {o1 o2 : HO} (hx : H2 x = none) (hdx : H2 dx = none) (X : Exx x (upd (upd H2 dx o1) x o2) H3) : Ex H2 H3 := fun q o hq => by
  have n1 : q ≠ x := ne_of_none hq hx
  have n2 : q ≠ dx := ne_of_none hq hdx
  refine X q o n1 ?_
  rw [upd_ne n1, upd_ne n2]
  exact hq
def dWork (K : PySem.W.Frag) (w : Kv321.Work) : Dsc := ⟨fun G v H => ∃ x dx l, v = .ref x ∧ G x = none ∧ G l = none ∧ H x = some (.ins (He.ga K "Work") dx (wF w l)) ∧ H l = some (.lst (vns w.loose)),
  fun e ⟨x, dx, l, h1, h2, h3, h4, h5⟩ => ⟨x, dx, l, h1, h2, h3, e _ _ h4, e _ _ h5⟩, fun e ⟨x, dx, l, h1, h2, h3, h4, h5⟩ => ⟨x, dx, l, h1, fresh_back e h2, fresh_back e h3, h4, h5⟩⟩
theorem ev_make_Work {n f m p : Nat} (h1 : Ev ta σ H (dV (.int n))) (h2 : Ev tb σ H (dV (.int f))) (h3 : Ev tc σ H (dV (.int m))) (h4 : Ev td σ H (dV (.int p))) :
    Ev (tMake (He.ga K "Work") (sp_init_Work K) [] E0 (tCons ta (tCons tb (tCons tc (tCons td tNil))))) σ H (dWork K ⟨n, f, m, p, five⟩) := fun H1 e Q q =>
  (ea_cons h1 (ea_cons h2 (ea_cons h3 (ea_cons h4 ea_nil)))) H1 e _ fun vs H2 e2 hv x dx hx hdx hne => by
    have e3 : vs = [.int n, .int f, .int m, .int p] := Iss.vals (ws := [.int n, .int f, .int m, .int p]) hv
    subst e3
    refine ⟨x, dx, n, f, m, p, rfl, upd_same, fun l H3 l0 X g1 g2 => ⟨rfl, q _ H3 (e2.trans (make_ex hx hdx X)) ⟨x, dx, l, rfl, fresh_back e2 hx, fresh_back e2 (make_none l0).2, g1, g2⟩⟩⟩
def dKit (K : PySem.W.Frag) (k : Set_) : Dsc := ⟨fun G v H => ∃ x dx s m g, v = .ref x ∧ (G x = none ∧ G s = none ∧ G m = none ∧ G g = none) ∧ (s ≠ m ∧ s ≠ g ∧ m ≠ g) ∧ H x = some (.ins (He.ga K "Kit") dx (kF k s m g)) ∧ H s = some (.lst (vns k.strings)) ∧ H m = some (.lst (vns k.missing)) ∧ H g = some (.lst (vns k.gone)),
  fun e ⟨x, dx, s, m, g, h1, h2, h3, h4, h5, h6, h7⟩ => ⟨x, dx, s, m, g, h1, h2, h3, e _ _ h4, e _ _ h5, e _ _ h6, e _ _ h7⟩, fun e ⟨x, dx, s, m, g, h1, ⟨i1, i2, i3, i4⟩, h3, h4⟩ => ⟨x, dx, s, m, g, h1, ⟨fresh_back e i1, fresh_back e i2, fresh_back e i3, fresh_back e i4⟩, h3, h4⟩⟩
theorem ev_make_Kit {w : Nat} {l : List Nat} (h1 : Ev ta σ H (dV (.int w))) (h2 : Ev tb σ H (dN (vns l))) :
    Ev (tMake (He.ga K "Kit") (sp_init_Kit K) [] E0 (tCons ta (tCons tb tNil))) σ H (dKit K ⟨w, l, [], five, none⟩) := fun H1 e Q q =>
  (ea_cons h1 (ea_cons h2 ea_nil)) H1 e _ fun vs H2 e2 hv x dx hx hdx hne => by
    match vs, hv with
    | [v1, v2], ⟨i1, ⟨s, i2, i3, i4⟩, _⟩ =>
      have i1' : v1 = .int w := i1
      subst i1' i2
      refine ⟨x, dx, w, s, rfl, upd_same, fun m g H3 m0 g0 mg X g1 g2 g3 => ⟨rfl, ?_⟩⟩
      have ex := make_ex hx hdx X
      exact q _ H3 (e2.trans ex) ⟨x, dx, s, m, g, rfl, ⟨fresh_back e2 hx, i3, fresh_back e2 (make_none m0).2, fresh_back e2 (make_none g0).2⟩, ⟨ne_of_none i4 (make_none m0).2, ne_of_none i4 (make_none g0).2, mg⟩, g1, ex _ _ i4, g2, g3⟩
def dHir (K : PySem.W.Frag) (z : Hire) : Dsc := ⟨fun G v H => ∃ x dx d p, v = .ref x ∧ (G x = none ∧ G d = none ∧ G p = none) ∧ d ≠ p ∧ H x = some (.ins (He.ga K "Hiring") dx (hF z d p)) ∧ H d = some (.lst (vns z.desks)) ∧ H p = some (.lst (vns z.loose)),
  fun e ⟨x, dx, d, p, h1, h2, h3, h4, h5, h6⟩ => ⟨x, dx, d, p, h1, h2, h3, e _ _ h4, e _ _ h5, e _ _ h6⟩, fun e ⟨x, dx, d, p, h1, ⟨i1, i2, i3⟩, h3⟩ => ⟨x, dx, d, p, h1, ⟨fresh_back e i1, fresh_back e i2, fresh_back e i3⟩, h3⟩⟩
theorem ev_make_Hiring {w f n c : Nat} {cl : Bool} {l : List Nat} (h1 : Ev ta σ H (dV (.int w))) (h2 : Ev tb σ H (dV (.int f))) (h3 : Ev tc σ H (dV (.int n))) (h4 : Ev td σ H (dV (.int c))) (h5 : Ev tf σ H (dV (.int (clI cl)))) (h6 : Ev te σ H (dN (vns l))) :
    Ev (tMake (He.ga K "Hiring") (sp_init_Hiring K) [] E0 (tCons ta (tCons tb (tCons tc (tCons td (tCons tf (tCons te tNil))))))) σ H (dHir K ⟨w, f, n, l, c, cl, 0, five, 0⟩) := fun H1 e Q q =>
  (ea_cons h1 (ea_cons h2 (ea_cons h3 (ea_cons h4 (ea_cons h5 (ea_cons h6 ea_nil)))))) H1 e _ fun vs H2 e2 hv x dx hx hdx hne => by
    match vs, hv with
    | [v1, v2, v3, v4, v5, v6], ⟨i1, i2, i3, i4, i5, ⟨s, j2, j3, j4⟩, _⟩ =>
      have i1' : v1 = .int w := i1
      have i2' : v2 = .int f := i2
      have i3' : v3 = .int n := i3
      have i4' : v4 = .int c := i4
      have i5' : v5 = .int (clI cl) := i5
      subst i1' i2' i3' i4' i5' j2
      refine ⟨x, dx, w, f, n, c, cl, s, rfl, upd_same, fun p H3 p0 X g1 g2 => ⟨rfl, ?_⟩⟩
      have ex := make_ex hx hdx X
      exact q _ H3 (e2.trans ex) ⟨x, dx, s, p, rfl, ⟨fresh_back e2 hx, j3, fresh_back e2 (make_none p0).2⟩, ne_of_none j4 (make_none p0).2, g1, ex _ _ j4, g2⟩
def dLib (K : PySem.W.Frag) : Dsc := ⟨fun G v H => ∃ x dx w k h, v = .ref x ∧ (G x = none ∧ G w = none ∧ G k = none ∧ G h = none) ∧ (w ≠ k ∧ w ≠ h ∧ k ≠ h) ∧ H x = some (.ins (He.ga K "Library") dx (lF false (Kv321.begun 0 0) w k h)) ∧ H w = some (.lst []) ∧ H k = some (.lst []) ∧ H h = some (.lst []),
  fun e ⟨x, dx, s, m, g, h1, h2, h3, h4, h5, h6, h7⟩ => ⟨x, dx, s, m, g, h1, h2, h3, e _ _ h4, e _ _ h5, e _ _ h6, e _ _ h7⟩, fun e ⟨x, dx, s, m, g, h1, ⟨i1, i2, i3, i4⟩, h3, h4⟩ => ⟨x, dx, s, m, g, h1, ⟨fresh_back e i1, fresh_back e i2, fresh_back e i3, fresh_back e i4⟩, h3, h4⟩⟩
theorem ev_make_Library : Ev (tMake (He.ga K "Library") (sp_init_Library K) [] E0 tNil) σ H (dLib K) := fun H1 e Q q =>
  ea_nil H1 e _ fun vs H2 e2 hv x dx hx hdx hne => by
    have e3 : vs = [] := Iss.vals (ws := []) hv
    subst e3
    refine ⟨x, dx, rfl, upd_same, fun w k h H3 w0 k0 h0 n1 n2 n3 X g1 g2 g3 g4 => ⟨rfl, q _ H3 (e2.trans (make_ex hx hdx X)) ⟨x, dx, w, k, h, rfl, ⟨fresh_back e2 hx, fresh_back e2 (make_none w0).2, fresh_back e2 (make_none k0).2, fresh_back e2 (make_none h0).2⟩, ⟨n1, n2, n3⟩, g1, g2, g3, g4⟩⟩⟩
/-- a library with nothing in it -/
def libT (x w k h : Addr) : Tag → Addr
  | .lib => x
  | .works => w
  | .kits => k
  | _ => h
theorem rep_none {w k h : Addr} (e1 : a.works = []) (e2 : a.sets = []) (e3 : a.hires = []) (hx : H x = some (.ins (He.ga K "Library") dx (lF b a w k h))) (hw : H w = some (.lst [])) (hk : H k = some (.lst [])) (hh : H h = some (.lst [])) (n : w ≠ k ∧ w ≠ h ∧ k ≠ h) :
    Rep K H (libT x w k h) (fun _ => dx) b a := by
  have no : ∀ t : Tag, t.ok a → t = .lib ∨ t = .works ∨ t = .kits ∨ t = .hirs := fun t ht => by
    cases t <;> simp [Tag.ok, e1, e2, e3] at ht ⊢
  refine ⟨fun t ht => ?_, fun t u ht hu z => ?_⟩
  · rcases no t ht with e | e | e | e <;> rw [e]
    · exact hx
    · show H w = some (.lst (refs _ a.works.length))
      rw [e1]
      exact hw
    · show H k = some (.lst (refs _ a.sets.length))
      rw [e2]
      exact hk
    · show H h = some (.lst (refs _ a.hires.length))
      rw [e3]
      exact hh
  · rcases no t ht with e | e | e | e <;> rcases no u hu with e' | e' | e' | e' <;> rw [e, e'] at z ⊢ <;> exfalso
    · have z' : x = w := z
      rw [z', hw] at hx
      cases hx
    · have z' : x = k := z
      rw [z', hk] at hx
      cases hx
    · have z' : x = h := z
      rw [z', hh] at hx
      cases hx
    · have z' : w = x := z
      rw [← z', hw] at hx
      cases hx
    · exact n.1 z
    · exact n.2.1 z
    · have z' : k = x := z
      rw [← z', hk] at hx
      cases hx
    · exact n.1 (Eq.symm z)
    · exact n.2.2 z
    · have z' : h = x := z
      rw [← z', hh] at hx
      cases hx
    · exact n.2.1 (Eq.symm z)
    · exact n.2.2 (Eq.symm z)
/-! stores into the library -/
theorem cps_st {fs' : List (Str × V)} (S : Stp G A0 a0 H A a) (hx : H (A .lib) = some (.ins C dx fs)) (hc : Cls K C) (hn : NoAttr K C f) (hl : fs.length < 1000) (hv : Ev tv σ H (dV v)) (ho : Ev to σ H (dV (.ref (A .lib)))) (e : putF f v fs = fs')
    (k : ∀ H1, Stp G A0 a0 H1 A a → Exx (A .lib) H H1 → H1 (A .lib) = some (.ins C dx fs') → tw DD σ H1) : tSeq (sFld K to tv f) tw DD σ H :=
  cps_fld hx hc hn hl hv ho fun w H1 e1 h1 => by
    have h1' : w = v := h1
    rw [h1', e]
    exact k _ ((S.ex e1).upd (Or.inl ⟨.lib, trivial, rfl⟩) fun q h => Or.inl h) ((Exx.refl.ex e1).upd) upd_same
theorem cps_stL {xs : List V} {fs' : Addr → List (Str × V)} (S : Stp G A0 a0 H A a) (hx : H (A .lib) = some (.ins C dx fs)) (hc : Cls K C) (hn : NoAttr K C f) (hl : fs.length < 1000) (hv : Ev tv σ H (dN xs)) (ho : Ev to σ H (dV (.ref (A .lib)))) (e : ∀ l, putF f (.ref l) fs = fs' l)
    (k : ∀ l H1, Stp G A0 a0 H1 A a → Exx (A .lib) H H1 → H1 (A .lib) = some (.ins C dx (fs' l)) → H l = none → G l = none → l ≠ A .lib → H1 l = some (.lst xs) → tw DD σ H1) : tSeq (sFld K to tv f) tw DD σ H :=
  cps_fld hx hc hn hl hv ho fun w H1 e1 ⟨l, h1, h2, h3⟩ => by
    have n : l ≠ A .lib := Ne.symm (ne_of_none hx h2)
    rw [h1, e]
    exact k l _ ((S.ex e1).upd (Or.inl ⟨.lib, trivial, rfl⟩) fun q h => Or.inl h) ((Exx.refl.ex e1).upd) upd_same h2 (S.dom _ h2) n (by rw [upd_ne n]; exact h3)
/-! deeds -/
theorem go_no (R : Rep K H A D b a) {x : Kv321.Ans} (e : a.does c = (a, x)) (hb : begins c = false) (h : Ev te σ H (dN (ansL x))) : Go (tRet te) σ H (dP K A b a c) :=
  go_retP h fun G v H2 e1 e2 ⟨p, h1, h2, h3⟩ => by
    refine ⟨A, D, p, h1, h2, by rw [e]; exact h3, ?_, rfl, ?_⟩
    · rw [e]
      show Rep K H2 A D (b || begins c) a
      rw [hb, Bool.or_false]
      exact (R.up e1).up e2
    · rw [e]
      exact Stp.refl.ex e2
theorem ret_do (L : Lv K G A0 a0 H A D b' a') {x : Kv321.Ans} (q : ∀ v H2, (dP K A0 b a0 c).is G v H2 → DD.rt v H2) (e : a0.does c = (a', x)) (hb : nb b c = b') (h : Ev te σ H (dN (ansL x))) : tRet te DD σ H :=
  cps_ret h fun v H1 e1 ⟨p, h1, h2, h3⟩ => q v H1 ⟨A, D, p, h1, L.S.dom _ h2, by rw [e]; exact h3, by rw [e, hb]; exact L.R.up e1, L.l, by rw [e]; exact L.S.ex e1⟩
theorem fn_deed {k : Nat} {t : TS} {N : List Str} (h : spDeed K k vs H Q E)
    (g : ∀ A D b a c pn pl ps ns ls, vs = [.ref (A .lib), .ref pn, .ref pl] → Rep K H A D b a → Wf a → Ask H A a pn pl ps ns ls → mk k ns ls c → Go t (start N vs) H (dP K A b a c)) : Fn t N vs H Q := by
  obtain ⟨A, D, b, a, c, pn, pl, ps, ns, ls, h1, h2, h3, h4, h5, h6⟩ := h
  exact g A D b a c pn pl ps ns ls h1 h2 h3 h4 h5 H (Ex.refl H) _ h6
theorem go_ge {n m : Nat} (h1 : Ev ta σ H (dV (.int (n : Nat)))) (h2 : Ev tb σ H (dV (.int (m : Nat)))) (hs : m ≤ n → Go ts σ H P) (hr : n < m → Go tr σ H P) : Go (tSeq (tIfS (tTest (tOp rGeI ta tb)) ts tNext) tr) σ H P :=
  go_if (et_test (ev_I h1 h2)) (fun hb => hs (by have := of_decide_eq_true hb; omega)) fun hb => hr (by have := of_decide_eq_false hb; omega)
theorem go_ne {n m : Nat} (h1 : Ev ta σ H (dV (.int (n : Nat)))) (h2 : Ev tb σ H (dV (.int (m : Nat)))) (hs : n ≠ m → Go ts σ H P) (hr : n = m → Go tr σ H P) : Go (tSeq (tIfS (tTest (tOp rNe ta tb)) ts tNext) tr) σ H P :=
  go_if (et_test (ev_ne h1 h2)) (fun hb => hs (by rw [Bool.not_eq_true'] at hb; have := of_decide_eq_false hb; omega)) fun hb => hr (by rw [Bool.not_eq_false'] at hb; have := of_decide_eq_true hb; omega)
theorem go_eq {n m : Nat} (h1 : Ev ta σ H (dV (.int (n : Nat)))) (h2 : Ev tb σ H (dV (.int (m : Nat)))) (hs : n = m → Go ts σ H P) (hr : n ≠ m → Go tr σ H P) : Go (tSeq (tIfS (tTest (tOp rEq ta tb)) ts tNext) tr) σ H P :=
  go_if (et_test (ev_eq h1 h2)) (fun hb => hs (by have := of_decide_eq_true hb; omega)) fun hb => hr (by have := of_decide_eq_false hb; omega)
theorem ev_n0 {n pn : Addr} {r : List Nat} (h : Ev te σ H (dV (.ref pn))) (hn : H pn = some (.lst (vns (n :: r)))) : Ev (tOp (rIxL K) te (tC (.int 0))) σ H (dV (.int (n : Nat))) :=
  ev_ixL h (ev_c (v := .int ((0 : Nat) : Int))) (SqL.of hn) (atI_vns (by show 0 < r.length + 1; omega))
theorem ev_l0 {p pl : Addr} {r : List V} (h : Ev te σ H (dV (.ref pl))) (hn : H pl = some (.lst (.ref p :: r))) : Ev (tOp (rIxL K) te (tC (.int 0))) σ H (dV (.ref p)) :=
  ev_ixL h (ev_c (v := .int ((0 : Nat) : Int))) (SqL.of hn) (atI_nat rfl)
theorem Ask.one {pn pl : Addr} {ps : List Addr} {ns l : List Nat} (Q : Ask H A a pn pl ps ns [l]) : ∃ p, ps = [p] ∧ H p = some (.lst (vns l)) ∧ ¬ Own A a p ∧ l.length ≤ 1000 ∧ H pl = some (.lst [.ref p]) := by
  have h := Q.rw
  have hl := Q.hl
  cases h with
  | cons h1 h2 =>
    cases h2
    exact ⟨_, rfl, h1.1, h1.2.1, h1.2.2, hl⟩
theorem Ask.two {pn pl : Addr} {ps : List Addr} {ns l m : List Nat} (Q : Ask H A a pn pl ps ns [l, m]) : ∃ p q, ps = [p, q] ∧ (H p = some (.lst (vns l)) ∧ ¬ Own A a p ∧ l.length ≤ 1000) ∧ (H q = some (.lst (vns m)) ∧ ¬ Own A a q ∧ m.length ≤ 1000) ∧ H pl = some (.lst [.ref p, .ref q]) := by
  have h := Q.rw
  have hl := Q.hl
  cases h with
  | cons h1 h2 =>
    cases h2 with
    | cons h3 h4 =>
      cases h4
      exact ⟨_, _, rfl, h1, h3, hl⟩
theorem has_no {n m : Nat} (h : m ≤ n) : decide (n < m) = false := decide_eq_false (by omega)
theorem has_yes {n m : Nat} (h : n < m) : ¬ decide (n < m) = false := by rw [decide_eq_true h]; decide
end
end Pl

/-! ### questions -/
namespace Pl
open PySem PySem.Spec PyProof.Rows L2
open Kv321 (Abs Hire Set_ at5 map5 five okDesks okDays)
theorem no2 {α : Type} {n m : Nat} {x y : α} (h : m ≤ n) : (if decide (n < m) = false then x else y) = x := if_pos (has_no h)
theorem yes2 {α : Type} {n m : Nat} {x y : α} (h : n < m) : (if decide (n < m) = false then x else y) = y := if_neg (has_yes h)
theorem vns_map (l : List Nat) : (l.map fun (k : Nat) => V.int ((k : Nat) : Int)) = vns l := by
  unfold vns
  rw [List.map_map]
  rfl
theorem vns_app (l m : List Nat) : vns (l ++ m) = vns l ++ vns m := by
  unfold vns
  rw [List.map_append, List.map_append]
theorem range_filter_len (n : Nat) (f : Nat → Bool) : ((List.range n).filter f).length ≤ n := by
  have h := List.length_filter_le f (List.range n)
  rw [List.length_range] at h
  exact h
theorem count_ix (a : Abs) (p : Hire → Bool) : a.hires.countP p = ((List.range a.hires.length).filter fun i => p (a.hire i)).length := by
  conv => lhs; rw [hires_ix a]
  rw [List.countP_map, List.countP_eq_length_filter]
  rfl
theorem okDays_nums {a : Abs} {f n : Nat} (h : okDays a f n = true) : a.today ≤ f ∧ 1 ≤ n ∧ n ≤ 60 ∧ f + n ≤ 1000 := by
  unfold okDays at h
  rw [Bool.and_eq_true, Bool.and_eq_true, Bool.and_eq_true] at h
  exact ⟨of_decide_eq_true h.1, of_decide_eq_true h.2.1, of_decide_eq_true h.2.2.1, of_decide_eq_true h.2.2.2⟩
theorem okDesks_len {l : List Nat} (h : okDesks l = true) : l.length = 5 := by
  unfold okDesks at h
  rw [Bool.and_eq_true] at h
  exact beq_iff_eq.mp h.1
section
variable {K : PySem.W.Frag} {mg : Str → Option Value} {H : Hp} {σ : L2.St} {te ta tb tl : TE} {vs : List V} {Q : VK} {E : XK} {A D : Tag → Addr} {b : Bool} {a : Abs} {c : Kv321.Call} {d : Dsc}
/-- [len(some)] + some -/
theorem go_list (R : Rep K H A D b a) {l : List Nat} {k : Nat} {p : Addr} (hk : σ[k]? = some (some (.ref p))) (hp : H p = some (.lst (vns l))) (hl : l.length ≤ 1000) (e : a.does c = (a, Kv321.list l)) (hb : begins c = false) :
    Go (tRet (tOp rCat (tLst (tCons (tCB (Evl.rLenS K) (tCons (tVar k) tNil)) tNil)) (tVar k))) σ H (dP K A b a c) := by
  refine go_no R e hb (Ev.isN (el_cat (el_lst1 (ev_lenD ((ev_var hk).asL hp))).L ((ev_var hk).asL hp) (by rw [vns_len]; show 1 + _ ≤ _; omega)) ?_)
  rw [vns_len]
  rfl
theorem rd_some_that_do (T : Txt K mg) (h : pr_some_that_do K vs H d) : Go (t_some_that_do K) (start N_some_that_do vs) H d.post := by
  obtain ⟨A, DD, b, a, q, w, f, n, p, l, rfl, R, W, hq, hp, hw, od, ok, rfl⟩ := h
  obtain ⟨o1, o2, o3, o4⟩ := okDays_nums od
  have l5 := okDesks_len ok
  refine go_unpL (is := [3, 4, 5]) ((ev_var rfl).asL hq) rfl rfl ?_
  refine go_ret (ev_callD (ds := [dV (.ref (A .lib)), dHir K ⟨w, f, n, l, 1, false, 0, five, 0⟩, dV (.int (bI none))]) (ea_cons (ev_var rfl) (ea_cons (ev_make_Hiring (c := 1) (cl := false) (ev_var rfl) (ev_var rfl) (ev_var rfl) ev_c ev_c (el_listD ((ev_var rfl).asL hp))) (ea_cons ev_c ea_nil))) fun vs H1 e hi => ?_)
  match vs, hi with
  | [v1, v2, v3], ⟨i1, ⟨x, dx, dd, q, i2, i3, i4, i5, i6, i7⟩, i8, _⟩ =>
    exact ⟨A, DD, b, a, x, ⟨w, f, n, l, 1, false, 0, five, 0⟩, none, by rw [show v1 = _ from i1, i2, show v3 = _ from i8], R.up e, W, ⟨_, _, _, i5, i6, i7⟩, ⟨hw, l5, o2, o4⟩, rfl⟩
theorem ca_some_that_do {q p : Addr} {w f n : Nat} {l : List Nat} (R : Rep K H A D b a) (W : Wf a) (hq : H q = some (.lst (vns [w, f, n]))) (hp : H p = some (.lst (vns l))) (hw : w < a.works.length) (od : okDays a f n = true) (ok : okDesks l = true) (hl : Ev tl σ H (dV (.ref (A .lib)))) (h1 : Ev te σ H (dV (.ref q))) (h2 : Ev tb σ H (dV (.ref p))) :
    Ev (tCall (sp_some_that_do K) [] E0 (tCons tl (tCons te (tCons tb tNil)))) σ H (dN (vns (a.sets_ w f n l))) :=
  ev_call (vs := [.ref (A .lib), .ref q, .ref p]) (ea_cons hl (ea_cons h1 (ea_cons h2 ea_nil))) fun H1 e => ⟨A, D, b, a, q, w, f, n, p, l, rfl, R.up e, W, e _ _ hq, e _ _ hp, hw, od, ok, rfl⟩
theorem rd_due (T : Txt K mg) (hQ : sp_due K vs H Q E) : Fn (t_due K) N_due vs H Q := fn_deed hQ fun A D b a c pn pl ps ns ls e R W Qa hm => by
  obtain ⟨rfl, rfl, rfl⟩ := hm
  subst e
  have hn := W.nH
  refine go_asgD (ev_lcEV (m := 3) (m' := 4) (by decide) (fun i => .ref (A (.hir i))) (fun h => (a.hire h).how == 1 && decide ((a.hire h).from_ + (a.hire h).days ≤ a.today + 1)) (fun k => .int ((k : Nat) : Int)) (ev_hirings T R (ev_var rfl)) (by omega)
    (fun k hk => EvT.is (et_and (et_test (ev_eq (ev_fld (ev_var rfl) ((R.hir hk).how T)) ev_c)) fun _ => et_test (ev_I (ca_last_day (R.hir hk) (ev_var rfl)) (ev_fld (ev_var rfl) (R.today T)))) ?_) fun k hk _ => ev_var rfl) fun v H1 e1 ⟨p, h1, h2, h3⟩ => ?_
  · rw [beqN]
    congr 1
    exact decide_eq_decide.mpr (by omega)
  · subst h1
    rw [vns_map] at h3
    have := range_filter_len a.hires.length (fun h => (a.hire h).how == 1 && decide ((a.hire h).from_ + (a.hire h).days ≤ a.today + 1))
    exact go_list (R.up e1) rfl h3 (by omega) rfl rfl
theorem rd_torn (T : Txt K mg) (hQ : sp_torn K vs H Q E) : Fn (t_torn K) N_torn vs H Q := fn_deed hQ fun A D b a c pn pl ps ns ls e R W Qa hm => by
  obtain ⟨rfl, rfl, rfl⟩ := hm
  subst e
  have hn := W.nS
  refine go_asgD (ev_lcEV (m := 3) (m' := 4) (by decide) (fun i => .ref (A (.kit i))) (fun s => (a.set s).missing != []) (fun k => .int ((k : Nat) : Int)) (ev_kits T R (ev_var rfl)) (by omega)
    (fun k hk => EvT.is (et_test (ev_neNil (ev_fldL (ev_var rfl) ((R.kit hk).missing T)))) ?_) fun k hk _ => ev_var rfl) fun v H1 e1 ⟨p, h1, h2, h3⟩ => ?_
  · cases (a.set k).missing <;> rfl
  · subst h1
    rw [vns_map] at h3
    have := range_filter_len a.sets.length (fun s => (a.set s).missing != [])
    exact go_list (R.up e1) rfl h3 (by omega) rfl rfl
theorem rd_shelf (T : Txt K mg) (hQ : sp_shelf K vs H Q E) : Fn (t_shelf K) N_shelf vs H Q := fn_deed hQ fun A D b a c pn pl ps ns ls e R W Qa hm => by
  obtain ⟨rfl, rfl, rfl⟩ := hm
  subst e
  have hn := W.nS
  refine go_asgD (ev_lcR (m := 3) (fun s => !(a.out s)) (fun k => .int ((k : Nat) : Int)) (ev_kits_len T R (ev_var rfl)) (by omega)
    (fun k hk => et_not (et_B (ca_is_out R W (ev_var rfl) (ev_var rfl)))) fun k hk _ => ev_var rfl) fun v H1 e1 ⟨p, h1, h2, h3⟩ => ?_
  subst h1
  rw [vns_map, Int.toNat_natCast] at h3
  have := range_filter_len a.sets.length (fun s => !(a.out s))
  exact go_list (R.up e1) rfl h3 (by omega) rfl rfl
theorem rd_lost (T : Txt K mg) (hQ : sp_lost K vs H Q E) : Fn (t_lost K) N_lost vs H Q := fn_deed hQ fun A D b a c pn pl ps ns ls e R W Qa hm => by
  obtain ⟨s, rfl, rfl, rfl⟩ := hm
  subst e
  refine go_ge (ev_n0 (ev_var rfl) Qa.hn) (ev_kits_len T R (ev_var rfl)) (fun hb => go_no R (no2 hb) rfl (el_lst1 ev_c)) fun hb => ?_
  have hk := R.kit hb
  obtain ⟨s1, s2, s3, s4, s5⟩ := W.st s hb
  have w2 := (W.wk _ s1).2.1
  refine go_asg (ev_kits_at T R (ev_var rfl) (ev_n0 (ev_var rfl) Qa.hn) hb) ?_
  refine go_no R (yes2 hb) rfl (Ev.isN (el_cat (el_cat (el_lst1 (ev_lenD (ev_fldL (ev_var rfl) (hk.missing T)))).L (ev_fldL (ev_var rfl) (hk.missing T)) ?_).L (ev_fldL (ev_var rfl) (hk.gone T)) ?_) ?_)
  · rw [vns_len]
    show 1 + _ ≤ _
    omega
  · rw [List.length_append, vns_len, vns_len]
    show 1 + _ + _ ≤ _
    omega
  · unfold ansL
    rw [vns_len, vns_app]
    rfl
theorem rd_has (T : Txt K mg) (hQ : sp_has K vs H Q E) : Fn (t_has K) N_has vs H Q := fn_deed hQ fun A D b a c pn pl ps ns ls e R W Qa hm => by
  obtain ⟨s, rfl, rfl, rfl⟩ := hm
  subst e
  refine go_ge (ev_n0 (ev_var rfl) Qa.hn) (ev_kits_len T R (ev_var rfl)) (fun hb => go_no R (no2 hb) rfl (el_lst1 ev_c)) fun hb => ?_
  have hk := R.kit hb
  have ok := KitOk.of W hb
  obtain ⟨s1, s2, s3, s4, s5⟩ := W.st s hb
  refine go_asg (ev_kits_at T R (ev_var rfl) (ev_n0 (ev_var rfl) Qa.hn) hb) ?_
  refine go_no R (yes2 hb) rfl (Ev.isN (el_cat (el_lst1 ((ev_I (ev_fld (ev_works_at T R (ev_var rfl) (ev_fld (ev_var rfl) (hk.work T)) s1) ((R.work s1).winds T)) (ev_lenD (ev_fldL (ev_var rfl) (hk.missing T)))).is (w := .int (((a.work (a.set s).work).winds - (a.set s).missing.length : Nat) : Int)) (congrArg V.int ?_))).L (ca_there_of hk ok.s5 ok.g5 (ev_var rfl)).L (by rw [lF5_len]; show 1 + 5 ≤ _; decide)) ?_)
  · rw [vns_len]
    omega
  · unfold ansL
    rw [vns_map5]
    show _ :: lF5 _ = _ :: lF5 _
    refine congrArg _ (lF5_congr fun i hi => ?_)
    have := ok.le i hi
    omega
theorem rd_bill (T : Txt K mg) (hQ : sp_bill K vs H Q E) : Fn (t_bill K) N_bill vs H Q := fn_deed hQ fun A D b a c pn pl ps ns ls e R W Qa hm => by
  obtain ⟨h, rfl, rfl, rfl⟩ := hm
  subst e
  refine go_ge (ev_n0 (ev_var rfl) Qa.hn) (ev_hirings_len T R (ev_var rfl)) (fun hb => go_no R (no2 hb) rfl (el_lst1 ev_c)) fun hb => ?_
  have hz := R.hir hb
  obtain ⟨r1, r2, r3, r4, r5, r6, r7⟩ := W.hr h hb
  refine go_asg (ev_hirings_at T R (ev_var rfl) (ev_n0 (ev_var rfl) Qa.hn) hb) ?_
  by_cases hon : (a.hire h).how < 2
  · refine go_no R ((yes2 hb).trans (if_neg (by omega))) rfl (ev_if (et_B (ca_is_on hz (ev_var rfl))) (fun _ => el_lst1 (ca_bill_of (n := 0) R W hz r1 r5 (ev_var rfl) (ev_var rfl) ev_c)) fun z => absurd hon (of_decide_eq_false z))
  · refine go_no R ((yes2 hb).trans (if_pos (by omega))) rfl (ev_if (et_B (ca_is_on hz (ev_var rfl))) (fun z => absurd (of_decide_eq_true z) hon) fun _ => el_lst1 ev_c)
theorem rd_marks (T : Txt K mg) (hQ : sp_marks K vs H Q E) : Fn (t_marks K) N_marks vs H Q := fn_deed hQ fun A D b a c pn pl ps ns ls e R W Qa hm => by
  obtain ⟨s, rfl, rfl, rfl⟩ := hm
  subst e
  by_cases hb : s < a.sets.length
  · have hk := R.kit hb
    refine go_no R (yes2 hb) rfl (ev_if (et_test (ev_I (ev_n0 (ev_var rfl) Qa.hn) (ev_kits_len T R (ev_var rfl)))) (fun _ => Ev.isN (el_lst1 (ev_fld (ev_kits_at T R (ev_var rfl) (ev_n0 (ev_var rfl) Qa.hn) hb) (hk.marked T))) ?_) fun z => absurd hb (by have := of_decide_eq_false z; omega))
    unfold ansL
    cases (a.set s).marked <;> rfl
  · refine go_no R (no2 (by omega)) rfl (ev_if (et_test (ev_I (ev_n0 (ev_var rfl) Qa.hn) (ev_kits_len T R (ev_var rfl)))) (fun z => absurd (of_decide_eq_true z) (by omega)) fun _ => el_lst1 ev_c)
theorem rd_look (T : Txt K mg) (hQ : sp_look K vs H Q E) : Fn (t_look K) N_look vs H Q := fn_deed hQ fun A D b a c pn pl ps ns ls e R W Qa hm => by
  obtain ⟨h, rfl, rfl, rfl⟩ := hm
  subst e
  refine go_ge (ev_n0 (ev_var rfl) Qa.hn) (ev_hirings_len T R (ev_var rfl)) (fun hb => go_no R (no2 hb) rfl (el_lst1 ev_c)) fun hb => ?_
  have hz := R.hir hb
  obtain ⟨r1, r2, r3, r4, r5, r6, r7⟩ := W.hr h hb
  refine go_asg (ev_hirings_at T R (ev_var rfl) (ev_n0 (ev_var rfl) Qa.hn) hb) ?_
  refine go_asgD (el_lst (vs := [.int ((a.hire h).how : Nat), .int ((a.hire h).work : Nat), .int ((a.hire h).from_ : Nat), .int ((a.hire h).days : Nat), .int ((a.hire h).concerts : Nat), .int (clI (a.hire h).clean), .int ((a.hire h).set : Nat)])
    (ea_cons (ev_fld (ev_var rfl) (hz.how T)) (ea_cons (ev_fld (ev_var rfl) (hz.work T)) (ea_cons (ev_fld (ev_var rfl) (hz.first T)) (ea_cons (ev_fld (ev_var rfl) (hz.spell T)) (ea_cons (ev_fld (ev_var rfl) (hz.concerts T)) (ea_cons (ev_fld (ev_var rfl) (hz.clean T)) (ea_cons (ev_fld (ev_var rfl) (hz.kit T)) ea_nil))))))) (by show 7 ≤ 100000; decide)) fun v H1 e1 ⟨p, h1, h2, h3⟩ => ?_
  subst h1
  have hz1 := hz.up e1
  refine go_no (R.up e1) (yes2 hb) rfl (Ev.isN (el_cat (el_cat ((ev_var rfl).asL h3) (ev_fldL (ev_var rfl) (hz1.desks T)) ?_).L (ev_fldL (ev_var rfl) (hz1.put T)) ?_) ?_)
  · rw [vns_len, r3]
    show 7 + 5 ≤ _
    decide
  · rw [List.length_append, vns_len, vns_len, r3, r4]
    show 7 + 5 + 5 ≤ _
    decide
  · show _ = V.int _ :: vns (_ ++ _)
    rw [vns_app, vns_app]
    cases (a.hire h).clean <;> simp [vns, clI]
theorem rd_sums (T : Txt K mg) (hQ : sp_sums K vs H Q E) : Fn (t_sums K) N_sums vs H Q := fn_deed hQ fun A D b a c pn pl ps ns ls e R W Qa hm => by
  obtain ⟨rfl, rfl, rfl⟩ := hm
  subst e
  have hn := W.nH
  refine go_asg ((ev_lenD (ev_lcL (m := 3) (fun i => .ref (A (.hir i))) (fun h => (a.hire h).how == 1) (fun i => .ref (A (.hir i))) (ev_hirings T R (ev_var rfl)) (by omega)
    (fun k hk => EvT.is (et_test (ev_eq (ev_fld (ev_var rfl) ((R.hir hk).how T)) ev_c)) (by rw [beqN]; rfl)) fun k hk _ => ev_var rfl).L).is (w := .int ((a.hires.countP fun h => h.how == 1 : Nat) : Int)) (congrArg V.int ?_)) ?_
  · rw [List.length_map, count_ix]
  refine go_asg ((ev_lenD (ev_lcL (m := 3) (fun i => .ref (A (.hir i))) (fun h => (a.hire h).how == 2) (fun i => .ref (A (.hir i))) (ev_hirings T R (ev_var rfl)) (by omega)
    (fun k hk => EvT.is (et_test (ev_eq (ev_fld (ev_var rfl) ((R.hir hk).how T)) ev_c)) (by rw [beqN]; rfl)) fun k hk _ => ev_var rfl).L).is (w := .int ((a.hires.countP fun h => h.how == 2 : Nat) : Int)) (congrArg V.int ?_)) ?_
  · rw [List.length_map, count_ix]
  exact go_no R rfl rfl (el_lst (vs := [.int 0, .int (a.money : Nat), .int (a.spent : Nat), .int ((a.hires.countP fun h => h.how == 1 : Nat) : Int), .int ((a.hires.countP fun h => h.how == 2 : Nat) : Int)])
    (ea_cons ev_c (ea_cons (ev_fld (ev_var rfl) (R.paid T)) (ea_cons (ev_fld (ev_var rfl) (R.replaced T)) (ea_cons (ev_var rfl) (ea_cons (ev_var rfl) ea_nil))))) (by show 5 ≤ 100000; decide))
theorem rd_state (T : Txt K mg) (hQ : sp_state K vs H Q E) : Fn (t_state K) N_state vs H Q := fn_deed hQ fun A D b a c pn pl ps ns ls e R W Qa hm => by
  obtain ⟨rfl, rfl, rfl⟩ := hm
  subst e
  exact go_no R rfl rfl (el_lst (vs := [.int 0, .int (a.today : Nat), .int (a.works.length : Nat), .int (a.sets.length : Nat), .int (a.hires.length : Nat)])
    (ea_cons ev_c (ea_cons (ev_fld (ev_var rfl) (R.today T)) (ea_cons (ev_works_len T R (ev_var rfl)) (ea_cons (ev_kits_len T R (ev_var rfl)) (ea_cons (ev_hirings_len T R (ev_var rfl)) ea_nil))))) (by show 5 ≤ 100000; decide))
theorem rd_lacks (T : Txt K mg) (hQ : sp_lacks K vs H Q E) : Fn (t_lacks K) N_lacks vs H Q := fn_deed hQ fun A D b a c pn pl ps ns ls e R W Qa hm => by
  obtain ⟨s, l, rfl, rfl, rfl⟩ := hm
  subst e
  obtain ⟨p, rfl, hp, np, _, hl⟩ := Qa.one
  refine go_ge (ev_n0 (ev_var rfl) Qa.hn) (ev_kits_len T R (ev_var rfl)) (fun hb => go_no R (no2 hb) rfl (el_lst1 ev_c)) fun hb => ?_
  have hk := R.kit hb
  have ok := KitOk.of W hb
  refine go_if (et_not (et_B (ca_are_parts hp (ev_l0 (ev_var rfl) hl)))) (fun hd => go_no R ((yes2 hb).trans (if_pos (by rw [Bool.not_eq_true'] at hd; exact hd))) rfl (el_lst1 ev_c)) fun hd => ?_
  rw [Bool.not_eq_false'] at hd
  have l5 := okDesks_len hd
  refine go_asgD (ca_lack_ofD hk ok l5 (ev_kits_at T R (ev_var rfl) (ev_n0 (ev_var rfl) Qa.hn) hb) ((ev_l0 (ev_var rfl) hl).asL hp)) fun v H1 e1 ⟨q, h1, h2, h3⟩ => ?_
  subst h1
  refine go_no (R.up e1) ((yes2 hb).trans (if_neg (by rw [hd]; decide))) rfl (Ev.isN (el_cat (el_lst1 ((ev_sum (ns := (lackN (a.set s) l).map fun (n : Nat) => (n : Int)) ((ev_var rfl).asL h3)).is (congrArg V.int (sum_cast _)))).L ((ev_var rfl).asL h3) ?_) rfl)
  rw [vns_len]
  show 1 + (map5 _).length ≤ _
  rw [map5_len]
  decide
theorem rd_free (T : Txt K mg) (hQ : sp_free K vs H Q E) : Fn (t_free K) N_free vs H Q := fn_deed hQ fun A D b a c pn pl ps ns ls e R W Qa hm => by
  obtain ⟨w, i, dd, rfl, rfl, rfl⟩ := hm
  subst e
  refine go_unpL (is := [3, 4, 5]) ((ev_var rfl).asL Qa.hn) rfl rfl ?_
  refine go_ge (n := w) (ev_var rfl) (ev_works_len T R (ev_var rfl)) (fun hb => go_no R (no2 hb) rfl (el_lst1 ev_c)) fun hb => ?_
  have hv := R.work hb
  have w5 := (W.wk w hb).1
  refine go_if (et_or (et_test (ev_I (i := (i : Int)) (ev_var rfl) ev_c)) fun _ => et_not (et_test (ev_chain (j := (dd : Int)) (ev_fld (ev_var rfl) (R.today T)) (ev_var rfl) ev_c))) (fun hd => go_no R ((yes2 hb).trans (if_pos ?_)) rfl (el_lst1 ev_c)) fun hd => ?_
  · rcases Bool.or_eq_true_iff.mp hd with z | z
    · have := of_decide_eq_true z
      omega
    · rw [Bool.not_eq_true', Bool.and_eq_false_iff] at z
      rcases z with z | z
      · have := of_decide_eq_false z
        omega
      · have := of_decide_eq_false z
        omega
  · rw [Bool.or_eq_false_iff, Bool.not_eq_false', Bool.and_eq_true] at hd
    have h1 := of_decide_eq_false hd.1
    have h2 := of_decide_eq_true hd.2.1
    have h3 := of_decide_eq_true hd.2.2
    have i5 : i < 5 := by omega
    refine go_no R ((yes2 hb).trans (if_neg (by omega))) rfl (el_lst (vs := [.int (a.looseFree none w i dd : Nat), .int (at5 (a.work w).loose i : Nat)]) (ea_cons ((ev_max2 ev_c (ev_ixD (i := (i : Int)) (ca_free_on (x := none) (n := dd) R W hb (ev_var rfl) (ev_var rfl) (ev_var rfl) ev_c).L (ev_var rfl) (atI_lF5 i5))).is (congrArg V.int ?_)) (ea_cons (ev_ixD (i := (i : Int)) (ev_fldL (ev_works_at T R (ev_var rfl) (ev_var rfl) hb) (hv.loose T)) (ev_var rfl) (atI_vns (by omega))) ea_nil)) (by show 2 ≤ 100000; decide))
    unfold freeI Kv321.Abs.looseFree
    split <;> omega
end
end Pl

/-! ### plain laws -/
namespace Pl
open PySem PySem.Spec PyProof.Rows L2
open Kv321 (Abs Hire Set_ at5 map5 five okDesks okDays)
/-! the best set -/
theorem rank_lt {a : Abs} {k : List Nat} {s t : Nat} : rankI a k s < rankI a k t ↔ (a.key k s).1 < (a.key k t).1 ∨ ((a.key k s).1 = (a.key k t).1 ∧ ((a.key k s).2 < (a.key k t).2 ∨ ((a.key k s).2 = (a.key k t).2 ∧ s < t))) := by
  unfold rankI
  rw [List.cons_lt_cons_iff, List.cons_lt_cons_iff, List.cons_lt_cons_iff]
  have h : ¬ ([] : List Int) < [] := List.lt_irrefl []
  simp only [h, and_false, or_false]
  omega
def bet (a : Abs) (k : List Nat) (t s : Nat) : Nat := if (a.key k s).1 < (a.key k t).1 ∨ ((a.key k s).1 = (a.key k t).1 ∧ (a.key k s).2 < (a.key k t).2) then s else t
theorem minL_bet {a : Abs} {k : List Nat} : ∀ (r : List Nat) (t : Nat), (∀ s ∈ r, t < s) → r.Pairwise (· < ·) → minL (rankI a k t) (r.map (rankI a k)) = rankI a k (r.foldl (bet a k) t)
  | [], t, _, _ => rfl
  | s :: r, t, h, hp => by
    have hts := h s List.mem_cons_self
    have hp' := List.pairwise_cons.mp hp
    have e : (if decide (rankI a k s < rankI a k t) = true then rankI a k s else rankI a k t) = rankI a k (bet a k t s) := by
      by_cases c : (a.key k s).1 < (a.key k t).1 ∨ ((a.key k s).1 = (a.key k t).1 ∧ (a.key k s).2 < (a.key k t).2)
      · unfold bet
        rw [if_pos c, if_pos (decide_eq_true (rank_lt.mpr (by omega)))]
      · unfold bet
        rw [if_neg c, if_neg]
        intro z
        have := rank_lt.mp (of_decide_eq_true z)
        omega
    have h2 : ∀ u ∈ r, bet a k t s < u := fun u hu => by
      have u1 := hp'.1 u hu
      unfold bet
      split <;> omega
    have ih := minL_bet (a := a) (k := k) r (bet a k t s) h2 hp'.2
    show minL (if decide (rankI a k s < rankI a k t) = true then rankI a k s else rankI a k t) (r.map (rankI a k)) = _
    rw [e, ih]
    rfl
theorem best_fold {a : Abs} {k : List Nat} : ∀ (r : List Nat) (t : Nat), (r.foldl (fun b s => match b with
  | none => some s
  | some t => if (a.key k s).1 < (a.key k t).1 ∨ ((a.key k s).1 = (a.key k t).1 ∧ (a.key k s).2 < (a.key k t).2) then some s else some t) (some t)) = some (r.foldl (bet a k) t)
  | [], t => rfl
  | s :: r, t => by
    rw [List.foldl_cons, List.foldl_cons]
    have e : (if (a.key k s).1 < (a.key k t).1 ∨ ((a.key k s).1 = (a.key k t).1 ∧ (a.key k s).2 < (a.key k t).2) then some s else some t) = some (bet a k t s) := by
      unfold bet
      split <;> rfl
    show r.foldl _ (if _ then some s else some t) = _
    rw [e]
    exact best_fold r (bet a k t s)
theorem bet_mem {a : Abs} {k : List Nat} : ∀ (r : List Nat) (t : Nat), r.foldl (bet a k) t ∈ t :: r
  | [], t => List.mem_cons_self
  | s :: r, t => by
    have h := bet_mem (a := a) (k := k) r (bet a k t s)
    rw [List.foldl_cons]
    rcases List.mem_cons.mp h with e | h
    · rw [e]
      unfold bet
      split
      · exact List.mem_cons_of_mem _ List.mem_cons_self
      · exact List.mem_cons_self
    · exact List.mem_cons_of_mem _ (List.mem_cons_of_mem _ h)
theorem sets_rise (a : Abs) (w f n : Nat) (k : List Nat) : (a.sets_ w f n k).Pairwise (· < ·) := List.Pairwise.filter _ List.pairwise_lt_range
theorem best_of_sets {a : Abs} {w f n : Nat} {k : List Nat} {s : Nat} {r : List Nat} (h : a.sets_ w f n k = s :: r) : ∃ t, t ∈ s :: r ∧ a.best w f n k = some t ∧ bestI a k s r = (t : Int) := by
  have hp := sets_rise a w f n k
  rw [h] at hp
  have hp' := List.pairwise_cons.mp hp
  refine ⟨r.foldl (bet a k) s, bet_mem r s, ?_, ?_⟩
  · unfold Kv321.Abs.best
    rw [h]
    exact best_fold r s
  · unfold bestI
    rw [minL_bet r s hp'.1 hp'.2]
    rfl
theorem best_none {a : Abs} {w f n : Nat} {k : List Nat} (h : a.sets_ w f n k = []) : a.best w f n k = none := by
  unfold Kv321.Abs.best
  rw [h]
  rfl
/-! longer, slack -/
theorem over_gt {a : Abs} {z : Hire} (h : 1 ≤ z.days) : z.from_ < a.over z := by
  unfold Kv321.Abs.over
  split <;> omega
theorem longer_way {a : Abs} (W : Wf a) {h n : Nat} (hh : h < a.hires.length) : a.longerOk h n = !((List.range ((a.hire h).days + n + a.turn)).any fun j => inWay a h ((a.hire h).from_ + j)) := by
  obtain ⟨r1, r2, r3, r4, r5, r6, r7⟩ := W.hr h hh
  rw [Bool.eq_iff_iff, Bool.not_eq_true', List.any_eq_false]
  unfold Kv321.Abs.longerOk
  show (a.setFree (some h) (a.hire h).set (a.hire h).from_ ((a.hire h).days + n) && a.looseDo (some h) (a.hire h).work (a.hire h).loose (a.hire h).from_ ((a.hire h).days + n)) = true ↔ _
  rw [Bool.and_eq_true]
  constructor
  · intro ⟨h1, h2⟩ j hj z
    have hj' := List.mem_range.mp hj
    unfold inWay at z
    rcases Bool.or_eq_true_iff.mp z with z | z
    · obtain ⟨o, ho, z⟩ := List.any_eq_true.mp z
      rw [Bool.and_eq_true, Bool.and_eq_true] at z
      obtain ⟨z1, z2, z3⟩ := z
      unfold Kv321.Abs.setFree at h1
      have z1' : (some h != some o) = true := by
        rw [bne_iff_ne] at z1 ⊢
        intro e
        exact z1 (Option.some.inj e)
      have q := List.all_eq_true.mp h1 o (List.mem_filter.mpr ⟨ho, z1'⟩)
      rw [z2, Bool.true_and, Bool.not_eq_true'] at q
      unfold hasOn at z3
      rw [Bool.and_eq_true, Bool.and_eq_true] at z3
      have a1 := of_decide_eq_true z3.1
      have a2 := of_decide_eq_true z3.2.1
      have a3 := of_decide_eq_true z3.2.2
      unfold Kv321.Abs.meets at q
      rw [decide_eq_true a1, decide_eq_true (show (a.hire o).from_ < (a.hire h).from_ + ((a.hire h).days + n) + a.turn by omega), decide_eq_true (show (a.hire h).from_ < a.over (a.hire o) by omega)] at q
      cases q
    · rw [Bool.not_eq_true'] at z
      unfold enoughI at z
      obtain ⟨i, hi, z⟩ := List.all_eq_false.mp z
      unfold Kv321.Abs.looseDo at h2
      have q := List.all_eq_true.mp h2 i hi
      apply z
      rcases Bool.or_eq_true_iff.mp q with q | q
      · have := beq_iff_eq.mp q
        rw [decide_eq_true (show (at5 (a.hire h).loose i : Int) = 0 by omega), Bool.true_or]
      · have q2 := of_decide_eq_true (List.all_eq_true.mp q j (List.mem_range.mpr (by omega)))
        by_cases h0 : at5 (a.hire h).loose i = 0
        · rw [decide_eq_true (show (at5 (a.hire h).loose i : Int) = 0 by omega), Bool.true_or]
        · rw [decide_eq_true ((free_nat (by omega)).mpr q2), Bool.or_true]
  · intro hall
    constructor
    · unfold Kv321.Abs.setFree
      rw [List.all_eq_true]
      intro o ho
      obtain ⟨ho1, ho2⟩ := List.mem_filter.mp ho
      have hol := List.mem_range.mp ho1
      rw [Bool.not_eq_true']
      refine Bool.eq_false_iff.mpr fun z => ?_
      rw [Bool.and_eq_true] at z
      obtain ⟨z1, z2⟩ := z
      unfold Kv321.Abs.meets at z2
      rw [Bool.and_eq_true, Bool.and_eq_true] at z2
      have a1 := of_decide_eq_true z2.1
      have a2 := of_decide_eq_true z2.2.1
      have a3 := of_decide_eq_true z2.2.2
      have a4 := over_gt (a := a) (z := a.hire o) (W.hr o hol).2.2.2.2.2.1
      have q := hall (max (a.hire h).from_ (a.hire o).from_ - (a.hire h).from_) (List.mem_range.mpr (by omega))
      apply q
      unfold inWay
      rw [Bool.or_eq_true]
      left
      rw [List.any_eq_true]
      refine ⟨o, ho1, ?_⟩
      have o1 : (h != o) = true := by
        rw [bne_iff_ne] at ho2 ⊢
        intro e
        exact ho2 (by rw [e])
      rw [o1, z1, Bool.true_and, Bool.true_and]
      unfold hasOn
      rw [decide_eq_true a1, decide_eq_true (show (a.hire o).from_ ≤ (a.hire h).from_ + (max (a.hire h).from_ (a.hire o).from_ - (a.hire h).from_) by omega), decide_eq_true (show (a.hire h).from_ + (max (a.hire h).from_ (a.hire o).from_ - (a.hire h).from_) < a.over (a.hire o) by omega)]
      rfl
    · unfold Kv321.Abs.looseDo
      rw [List.all_eq_true]
      intro i hi
      by_cases h0 : at5 (a.hire h).loose i = 0
      · rw [h0]
        rfl
      · rw [Bool.or_eq_true]
        right
        rw [List.all_eq_true]
        intro j hj
        have hj' := List.mem_range.mp hj
        have q := hall j (List.mem_range.mpr (by omega))
        unfold inWay at q
        rw [Bool.or_eq_true, not_or, Bool.not_eq_true', Bool.not_eq_false] at q
        have q2 := q.2
        unfold enoughI at q2
        have q3 := List.all_eq_true.mp q2 i hi
        rw [decide_eq_false (show ¬ (at5 (a.hire h).loose i : Int) = 0 by omega), Bool.false_or] at q3
        exact decide_eq_true ((free_nat (by omega)).mp (of_decide_eq_true q3))
theorem take_range {p : Nat → Bool} {N m : Nat} (h1 : ∀ n, n < m → p n = true) (h2 : m ≤ N) (h3 : m = N ∨ p m = false) : (List.range N).takeWhile p = List.range m := by
  have e : N = m + (N - m) := by omega
  rw [e, List.range_add, List.takeWhile_append_of_pos (fun x hx => h1 x (List.mem_range.mp hx))]
  cases hd : N - m with
  | zero =>
    show List.range m ++ [] = _
    rw [List.append_nil]
  | succ k =>
    have hm : p m = false := by
      rcases h3 with h3 | h3
      · omega
      · exact h3
    rw [List.range_succ_eq_map, List.map_cons, List.takeWhile_cons_of_neg (by show ¬ p (m + 0) = true; rw [Nat.add_zero, hm]; decide), List.append_nil]
theorem last_range {k : Nat} : (List.range (k + 1)).getLastD 0 = k := by
  rw [List.range_succ]
  simp
theorem slack_at {a : Abs} {h k : Nat} (h1 : ∀ n, n ≤ k → a.longerOk h n = true) (h2 : k ≤ 60) (h3 : k = 60 ∨ a.longerOk h (k + 1) = false) : a.slack h = k := by
  unfold Kv321.Abs.slack
  rw [take_range (m := k + 1) (fun n hn => h1 n (by omega)) (by omega) (by rcases h3 with z | z; exact Or.inl (by omega); exact Or.inr z)]
  exact last_range
theorem slack_none {a : Abs} {h : Nat} (h1 : a.longerOk h 0 = false) : a.slack h = 0 := by
  unfold Kv321.Abs.slack
  rw [take_range (m := 0) (fun n hn => by omega) (by omega) (Or.inr h1)]
  rfl
/-! sorting -/
theorem nodup_pair {α : Type} {x y : α} : ∀ {l : List α}, l.Nodup → List.Sublist [x, y] l → List.Sublist [y, x] l → False
  | [], _, h, _ => by cases h
  | z :: l, hn, h1, h2 => by
    have hn' := List.nodup_cons.mp hn
    cases h1 with
    | cons _ g1 =>
      cases h2 with
      | cons _ g2 => exact nodup_pair hn'.2 g1 g2
      | cons_cons _ g2 => exact hn'.1 (g1.subset (by simp))
    | cons_cons _ g1 =>
      cases h2 with
      | cons _ g2 => exact hn'.1 (g2.subset (by simp))
      | cons_cons _ g2 => exact hn'.1 (g1.subset (by simp))
theorem plan_sorted (g : Nat → Nat) (l : List Nat) (hl : l.Pairwise (· < ·)) : (l.mergeSort fun h i => decide (g h ≤ g i)).Pairwise fun h i => g h < g i ∨ (g h = g i ∧ h < i) := by
  have tr : ∀ a b c : Nat, decide (g a ≤ g b) = true → decide (g b ≤ g c) = true → decide (g a ≤ g c) = true := fun a b c h1 h2 => by
    have h1' := of_decide_eq_true h1
    have h2' := of_decide_eq_true h2
    exact decide_eq_true (by omega)
  have to : ∀ a b : Nat, (decide (g a ≤ g b) || decide (g b ≤ g a)) = true := fun a b => by
    rw [Bool.or_eq_true, decide_eq_true_iff, decide_eq_true_iff]
    omega
  have nd : l.Nodup := hl.imp fun h => Nat.ne_of_lt h
  have pm := List.mergeSort_perm l fun h i => decide (g h ≤ g i)
  have ndm : (l.mergeSort fun h i => decide (g h ≤ g i)).Nodup := pm.nodup_iff.mpr nd
  have st := List.pairwise_mergeSort tr to l
  rw [List.pairwise_iff_forall_sublist]
  intro x y hxy
  have hle := of_decide_eq_true (List.pairwise_iff_forall_sublist.mp st hxy)
  by_cases hlt : g x < g y
  · exact Or.inl hlt
  · right
    refine ⟨by omega, ?_⟩
    have hx : x ∈ l := pm.mem_iff.mp (hxy.subset (by simp))
    have hy : y ∈ l := pm.mem_iff.mp (hxy.subset (by simp))
    have hne : x ≠ y := by
      have := List.pairwise_iff_forall_sublist.mp ndm hxy
      exact this
    by_cases hc : x < y
    · exact hc
    · exfalso
      have hyx : y < x := by omega
      obtain ⟨i, hi, ei⟩ := List.getElem_of_mem hx
      obtain ⟨j, hj, ej⟩ := List.getElem_of_mem hy
      have hij : j < i := by
        by_cases hq : j < i
        · exact hq
        · exfalso
          by_cases he : i = j
          · subst he
            exact hne (ei.symm.trans ej)
          · have := List.pairwise_iff_getElem.mp hl i j hi hj (by omega)
            rw [ei, ej] at this
            omega
      have sub : List.Sublist [y, x] l := by
        rw [← ej, ← ei]
        have h1 : List.Sublist [l[i]] (l.drop (j + 1)) := by
          rw [List.singleton_sublist]
          rw [show l[i] = (l.drop (j + 1))[i - (j + 1)]'(by rw [List.length_drop]; omega) by rw [List.getElem_drop]; congr 1; omega]
          exact List.getElem_mem _
        have h2 : l.drop j = l[j] :: l.drop (j + 1) := List.drop_eq_getElem_cons hj
        have h3 : List.Sublist (l.drop j) l := List.drop_sublist j l
        rw [h2] at h3
        exact (List.Sublist.cons_cons _ h1).trans h3
      exact nodup_pair ndm hxy (List.pair_sublist_mergeSort tr to (decide_eq_true (by omega)) sub)
end Pl

/-! ### questions that search -/
namespace Pl
open PySem PySem.Spec PyProof.Rows L2
open Kv321 (Abs Hire Set_ at5 map5 five okDesks okDays)
theorem filter_ix (l : List Nat) (p : Nat → Bool) : ((List.range l.length).filter fun j => p (l.getD j 0)).map (fun j => l.getD j 0) = l.filter p := by
  conv => rhs; rw [list_ix l 0]
  rw [List.filter_map]
  rfl
section
variable {K : PySem.W.Frag} {mg : Str → Option Value} {G H : Hp} {σ : L2.St} {te ta tb tl : TE} {vs : List V} {Q : VK} {E : XK} {A D : Tag → Addr} {b : Bool} {a : Abs} {c : Kv321.Call} {d : Dsc} {P : Post} {DD : Ends} {ts tr : TS}
theorem go_unpT {m m' : Nat} {x y : V} (h : Ev te σ H (dT [x, y])) (k : Go tr ((σ.set m (some x)).set m' (some y)) H P) : Go (tSeq (tAsg te (gTup K 2 (gCons (gName m) (gCons (gName m') gNil)))) tr) σ H P := fun H1 e D q =>
  h H1 e _ fun w H2 e2 ⟨p, h1, h2⟩ => by
    subst h1
    exact ⟨p, [x, y], rfl, SqT.of h2, rfl, x, [y], rfl, y, [], rfl, rfl, k H2 (e.trans e2) D fun w H3 h3 => q w H3 (P.dn e2 h3)⟩
theorem for_list {p : Addr} {xs : List V} {m : Nat} (h : Ev tl σ H (dV (.ref p))) (hx : SqL K H p xs) (Pv : Nat → L2.St → Hp → Prop) (h0 : ∀ H1, Ex H H1 → Pv 0 σ H1) (hG : ∀ i σ' H', i ≤ xs.length → Pv i σ' H' → SqL K H' p xs)
    (hs : ∀ i x σ' H', xs[i]? = some x → Pv i σ' H' → ts { DD with nx := Pv (i + 1), ct := Pv (i + 1), bk := DD.nx } (σ'.set m (some x)) H') (hd : ∀ σ' H', Pv xs.length σ' H' → DD.nx σ' H') :
    tFor (iList K tl) (gName m) ts DD σ H := h H (Ex.refl H) _ fun w H1 e hw => by
  subst hw
  refine ⟨p, rfl, ⟨xs, sqL_up e hx⟩, for_it walk_list Pv (h0 H1 e) hG (fun i x σ' Hc H' hi pv hy => ?_) hd⟩
  obtain ⟨h1, h2⟩ := hy
  subst h1
  exact hs i x σ' _ h2 pv
theorem s_ext {l : Addr} {xs zs : List V} (hl : H l = some (.lst xs)) (ha : Ev ta σ H (dV (.ref l))) (h : Ev te σ H (dL zs)) (hz : xs.length + zs.length ≤ sizeLine) (k : ∀ H1, Ex H H1 → DD.nx σ (upd H1 l (.lst (xs ++ zs)))) :
    tDrop (tBM K "list" rExtend ta (tCons te tNil)) DD σ H := ha H (Ex.refl H) _ fun w H1 e1 hw => by
  subst hw
  exact ⟨Or.inl ⟨rfl, xs, SqL.of (e1 l _ hl)⟩, h H1 e1 _ fun w H2 e2 ⟨q, h1, h2⟩ => by
    subst h1
    exact ⟨l, q, xs, zs, rfl, rfl, e2 l _ (e1 l _ hl), h2, hz, k H2 (e1.trans e2)⟩⟩
theorem ask_no {w f n : Nat} {l : List Nat} (h : askWhy a w f n l ≠ 0) (x : Abs × Kv321.Ans) :
    (if a.hasW w = false then (a, Kv321.say (-2)) else if okDays a f n = false ∨ okDesks l = false then (a, Kv321.say (-22)) else x) = (a, Kv321.say (askWhy a w f n l)) := by
  unfold askWhy at h ⊢
  by_cases h1 : a.hasW w = false
  · rw [if_pos h1, if_pos h1]
  · rw [if_neg h1] at h
    rw [if_neg h1, if_neg h1]
    by_cases h2 : okDays a f n = false ∨ okDesks l = false
    · rw [if_pos h2, if_pos h2]
    · rw [if_neg h2] at h
      exact absurd rfl h
theorem ask_yes {w f n : Nat} {l : List Nat} (h : askWhy a w f n l = 0) : w < a.works.length ∧ okDays a f n = true ∧ okDesks l = true ∧ ∀ (x : Abs × Kv321.Ans),
    (if a.hasW w = false then (a, Kv321.say (-2)) else if okDays a f n = false ∨ okDesks l = false then (a, Kv321.say (-22)) else x) = x := by
  unfold askWhy at h
  by_cases h1 : a.hasW w = false
  · rw [if_pos h1] at h
    cases h
  · rw [if_neg h1] at h
    by_cases h2 : okDays a f n = false ∨ okDesks l = false
    · rw [if_pos h2] at h
      cases h
    · refine ⟨?_, ?_, ?_, fun x => by rw [if_neg h1, if_neg h2]⟩
      · unfold Kv321.Abs.hasW at h1
        rw [Bool.not_eq_false] at h1
        exact of_decide_eq_true h1
      · rw [not_or, Bool.not_eq_false] at h2
        exact h2.1
      · rw [not_or, Bool.not_eq_false, Bool.not_eq_false] at h2
        exact h2.2
theorem sets_len (a : Abs) (w f n : Nat) (k : List Nat) : (a.sets_ w f n k).length ≤ a.sets.length := range_filter_len _ _
theorem rd_could (T : Txt K mg) (hQ : sp_could K vs H Q E) : Fn (t_could K) N_could vs H Q := fn_deed hQ fun A D b a c pn pl ps ns ls e R W Qa hm => by
  obtain ⟨w, f, n, l, rfl, rfl, rfl⟩ := hm
  subst e
  obtain ⟨p, rfl, hp, np, _, hl⟩ := Qa.one
  refine go_asg (ca_why_not_asked R Qa.hn hp (ev_var rfl) (ev_var rfl) (ev_l0 (ev_var rfl) hl)) ?_
  refine go_if (et_test (ev_ne (ev_var rfl) ev_c)) (fun hb => ?_) fun hb => ?_
  · rw [Bool.not_eq_true'] at hb
    exact go_no R (ask_no (of_decide_eq_false hb) _) rfl (el_lst1 (ev_var rfl))
  · rw [Bool.not_eq_false'] at hb
    obtain ⟨h1, h2, h3, h4⟩ := ask_yes (of_decide_eq_true hb)
    refine go_no R (h4 _) rfl (Ev.isN (el_lst1 (ev_int1 (ev_neNil (ns := (a.sets_ w f n l).map fun (n : Nat) => (n : Int)) (ca_some_that_do R W Qa.hn hp h1 h2 h3 (ev_var rfl) (ev_var rfl) (ev_l0 (ev_var rfl) hl)).L))) ?_)
    cases hs : a.sets_ w f n l with
    | nil =>
      rw [best_none hs]
      rfl
    | cons s r =>
      obtain ⟨t, _, h5, _⟩ := best_of_sets hs
      rw [h5]
      rfl
theorem rd_choices (T : Txt K mg) (hQ : sp_choices K vs H Q E) : Fn (t_choices K) N_choices vs H Q := fn_deed hQ fun A D b a c pn pl ps ns ls e R W Qa hm => by
  obtain ⟨w, f, n, l, rfl, rfl, rfl⟩ := hm
  subst e
  obtain ⟨p, rfl, hp, np, _, hl⟩ := Qa.one
  refine go_asg (ca_why_not_asked R Qa.hn hp (ev_var rfl) (ev_var rfl) (ev_l0 (ev_var rfl) hl)) ?_
  refine go_if (et_test (ev_ne (ev_var rfl) ev_c)) (fun hb => ?_) fun hb => ?_
  · rw [Bool.not_eq_true'] at hb
    exact go_no R (ask_no (of_decide_eq_false hb) _) rfl (el_lst1 (ev_var rfl))
  · rw [Bool.not_eq_false'] at hb
    obtain ⟨h1, h2, h3, h4⟩ := ask_yes (of_decide_eq_true hb)
    have hd0 := of_decide_eq_true hb
    have l5 := okDesks_len h3
    intro H1 e1 DD q
    have R1 := R.up e1
    refine cps_asg (ca_some_that_do R1 W (e1 _ _ Qa.hn) (e1 _ _ hp) h1 h2 h3 (ev_var rfl) (ev_var rfl) (ev_l0 (ev_var rfl) (e1 _ _ hl))) fun v H2 e2 ⟨r, hr1, hr2, hr3⟩ => ?_
    subst hr1
    refine cps_asg (el_lst1 (ev_lenD ((ev_var rfl).asL hr3))) fun v H3 e3 ⟨g, hg1, hg2, hg3⟩ => ?_
    subst hg1
    rw [vns_len] at hg3
    let L := a.sets_ w f n l
    let tri : Nat → List Nat := fun s => [s, (a.key l s).1, (a.key l s).2]
    have hLs : L.length ≤ 12 := Nat.le_trans (sets_len a w f n l) W.nS
    have e13 : Ex H1 H3 := e2.trans e3
    have hg0 : H1 g = none := fresh_back e2 hg2
    have tl3 : ∀ k, ((L.take k).flatMap tri).length ≤ 3 * k := fun k => by
      have : ∀ M : List Nat, (M.flatMap tri).length = 3 * M.length := fun M => by
        induction M with
        | nil => rfl
        | cons x M ih =>
          rw [List.flatMap_cons, List.length_append, ih]
          show 3 + 3 * M.length = 3 * (M.length + 1)
          omega
      rw [this, List.length_take]
      omega
    refine cps_for (for_list (ev_var rfl) (SqL.of (e3 _ _ hr3)) (fun k σ' H' => (∃ s6 s7, σ' = [some (.ref (A .lib)), some (.ref pn), some (.ref pl), some (.int (askWhy a w f n l)), some (.ref r), some (.ref g), s6, s7]) ∧ Ex H1 H' ∧ H' r = some (.lst (vns L)) ∧ H' g = some (.lst (.int (L.length : Nat) :: vns ((L.take k).flatMap tri))))
      (fun H4 e4 => ⟨⟨none, none, rfl⟩, e13.trans e4, e4 _ _ (e3 _ _ hr3), e4 _ _ hg3⟩) (fun k σ' H' _ p => SqL.of p.2.2.1) (fun k x σ' H' hx ⟨⟨s6, s7, hσ⟩, e4, hr', hg'⟩ => ?_) fun σ' H' ⟨⟨s6, s7, hσ⟩, e4, hr', hg'⟩ => ?_)
    · subst hσ
      have hk : k < L.length := by
        have h1 := (List.getElem?_eq_some_iff.mp hx).1
        rw [vns_len] at h1
        exact h1
      obtain ⟨s, hs⟩ : ∃ s, L[k]? = some s := ⟨_, List.getElem?_eq_getElem hk⟩
      have ex : x = .int (s : Nat) := by
        have h5 : (vns L)[k]? = some (.int (s : Nat)) := by
          unfold vns
          rw [List.getElem?_map, List.getElem?_map, hs]
          rfl
        rw [h5] at hx
        exact (Option.some.inj hx).symm
      subst ex
      have hsl : s < a.sets.length := by
        have h5 := List.mem_of_getElem? hs
        exact List.mem_range.mp (List.mem_filter.mp h5).1
      have R4 := R.up (e1.trans e4)
      have hk4 := R4.kit hsl
      have ok := KitOk.of W hsl
      have hp4 := (e1.trans e4) _ _ hp
      have hl4 := (e1.trans e4) _ _ hl
      refine cps_asg (ev_kits_at T R4 (ev_var rfl) (ev_var rfl) hsl) fun v H5 e5 hv => ?_
      subst hv
      have hk5 := hk4.up e5
      have gr : r ≠ g := fun z => by
        rw [z] at hr3
        rw [hr3] at hg2
        cases hg2
      refine s_ext (e5 _ _ hg') (ev_var rfl) (el_lst (vs := [.int (s : Nat), .int ((a.key l s).1 : Nat), .int ((a.key l s).2 : Nat)]) (ea_cons (ev_var rfl) (ea_cons ((ev_sum (ns := (lackN (a.set s) l).map fun (n : Nat) => (n : Int)) (ca_lack_of hk5 ok (e5 _ _ hp4) l5 (ev_var rfl) (ev_l0 (ev_var rfl) (e5 _ _ hl4))).L).is (congrArg V.int (sum_cast _))) (ea_cons (ca_extra_of hk5 ok (e5 _ _ hp4) l5 (ev_var rfl) (ev_l0 (ev_var rfl) (e5 _ _ hl4))) ea_nil))) (by show 3 ≤ 100000; decide)).L ?_ fun H6 e6 => ?_
      · show (vns _).length + 1 + 3 ≤ sizeLine
        rw [vns_len]
        have := tl3 k
        have h7 : 100000 ≤ sizeLine := by decide
        omega
      · refine ⟨⟨_, _, rfl⟩, Ex.mut (e4.trans (e5.trans e6)) hg0, ?_, ?_⟩
        · rw [upd_ne gr]
          exact e6 _ _ (e5 _ _ hr')
        · rw [upd_same, take_more hs, List.flatMap_append, vns_app]
          rfl
    · subst hσ
      show tRet (tVar 5) DD _ H'
      rw [vns_len] at hg'
      have hT : L.take L.length = L := List.take_length
      rw [show (a.sets_ w f n l) = L from rfl, hT] at hg'
      have hdo : a.does (.choices w f n l) = (a, ⟨(L.length : Nat), L.flatMap tri⟩) := h4 _
      refine cps_ret (ev_var (v := .ref g) rfl) fun v H5 e5 hv => q v H5 ⟨A, D, g, hv, hg0, ?_, ?_, rfl, ?_⟩
      · rw [hdo]
        exact e5 _ _ hg'
      · rw [hdo]
        show Rep K H5 A D (b || false) a
        rw [Bool.or_false]
        exact R.up (e1.trans (e4.trans e5))
      · rw [hdo]
        exact Stp.refl.ex (e4.trans e5)
end
end Pl

/-! ### questions that sort -/
namespace Pl
open PySem PySem.Spec PyProof.Rows L2
open Kv321 (Abs Hire Set_ at5 map5 five okDesks okDays)
theorem nat_sorted {l : List Nat} {ns : List Int} (h1 : ns.Perm (l.map fun (n : Nat) => (n : Int))) (h2 : ns.Pairwise (· ≤ ·)) : ns = (l.mergeSort fun x y => decide (x ≤ y)).map fun (n : Nat) => (n : Int) := by
  have tr : ∀ a b c : Nat, decide (a ≤ b) = true → decide (b ≤ c) = true → decide (a ≤ c) = true := fun a b c h1 h2 => by
    have h1' := of_decide_eq_true h1
    have h2' := of_decide_eq_true h2
    exact decide_eq_true (by omega)
  have to : ∀ a b : Nat, (decide (a ≤ b) || decide (b ≤ a)) = true := fun a b => by
    rw [Bool.or_eq_true, decide_eq_true_iff, decide_eq_true_iff]
    omega
  refine List.Perm.eq_of_pairwise (le := fun (x y : Int) => x ≤ y) (fun a b _ _ h3 h4 => Int.le_antisymm h3 h4) h2 ?_ ?_
  · rw [List.pairwise_map]
    exact (List.pairwise_mergeSort tr to l).imp fun h => by have := of_decide_eq_true h; omega
  · exact h1.trans ((List.mergeSort_perm l _).map _).symm
/-- the pair that the tuple at a reference holds -/
def keyAt (H : Hp) (v : V) : Int × Int := match v with
  | .ref t => match H t with
    | some (.tup [.int i, .int j]) => (i, j)
    | _ => (0, 0)
  | _ => (0, 0)
theorem keyAt_eq {H : Hp} {t : Addr} {i j : Int} (h : H t = some (.tup [.int i, .int j])) : keyAt H (.ref t) = (i, j) := by
  simp only [keyAt, h]
theorem key_map {G H : Hp} {f g : Nat → Int} : ∀ {L : List Nat} {xs : List V}, Iss (L.map fun i => dT [.int (f i), .int (g i)]) G xs H → xs.map (keyAt H) = L.map fun i => (f i, g i)
  | [], [], _ => rfl
  | [], _ :: _, h => h.elim
  | _ :: _, [], h => h.elim
  | i :: L, x :: xs, h => by
    obtain ⟨⟨t, h1, h2⟩, h3⟩ := h
    subst h1
    rw [List.map_cons, List.map_cons, keyAt_eq h2, key_map h3]
theorem key_mem {G H : Hp} {f g : Nat → Int} : ∀ {L : List Nat} {xs : List V}, Iss (L.map fun i => dT [.int (f i), .int (g i)]) G xs H → ∀ x ∈ xs, ∃ t, x = .ref t ∧ H t = some (.tup [.int (keyAt H x).1, .int (keyAt H x).2])
  | [], [], _ => fun x hx => by cases hx
  | [], _ :: _, h => h.elim
  | _ :: _, [], h => h.elim
  | i :: L, y :: xs, h => fun x hx => by
    obtain ⟨⟨t, h1, h2⟩, h3⟩ := h
    rcases List.mem_cons.mp hx with e | hx
    · rw [e, h1, keyAt_eq h2]
      exact ⟨t, rfl, h2⟩
    · exact key_mem h3 x hx
/-- what sorting by first days, then by numbers, leaves -/
theorem plan_keys {G H : Hp} {g : Nat → Nat} {L : List Nat} {xs ys : List V} (hL : L.Pairwise (· < ·)) (hx : Iss (L.map fun i => dT [.int (g i : Nat), .int (i : Nat)]) G xs H) (h1 : SrtO.Srtd (ltP (keyAt H)) ys) (h2 : ys.Perm xs) :
    ys.map (keyAt H) = (L.mergeSort fun h i => decide (g h ≤ g i)).map fun (i : Nat) => (((g i : Nat) : Int), ((i : Nat) : Int)) := by
  refine List.Perm.eq_of_pairwise (le := fun (p q : Int × Int) => SrtO.lexB q p = false) (fun p q _ _ h3 h4 => ?_) ?_ ?_ ?_
  · have h3' := SrtO.lexB_no.mp h3
    have h4' := SrtO.lexB_no.mp h4
    obtain ⟨p1, p2⟩ := p
    obtain ⟨q1, q2⟩ := q
    have e1 : p1 = q1 := by
      simp only at h3' h4'
      omega
    have e2 : p2 = q2 := by
      simp only at h3' h4'
      omega
    rw [e1, e2]
  · exact List.pairwise_map.mpr h1
  · rw [List.pairwise_map]
    refine (plan_sorted g L hL).imp fun h => SrtO.lexB_no.mpr ?_
    simp only
    omega
  · have e := key_map (f := fun i => ((g i : Nat) : Int)) (g := fun i => ((i : Nat) : Int)) hx
    exact ((h2.map _).trans (by rw [e])).trans ((List.mergeSort_perm L _).map _).symm
section
variable {K : PySem.W.Frag} {mg : Str → Option Value} {G H : Hp} {σ : L2.St} {te ta tb tl : TE} {vs : List V} {Q : VK} {E : XK} {A D : Tag → Addr} {b : Bool} {a : Abs} {c : Kv321.Call} {d : Dsc} {P : Post} {DD : Ends} {ts tr : TS}
theorem ev_sortedN {l : List Nat} (ha : Ev ta σ H (dL (vns l))) (hn : l.length < 64) : Ev (tCB (rSorted K) (tCons ta tNil)) σ H (dN (vns (l.mergeSort fun x y => decide (x ≤ y)))) := fun H1 e Q q =>
  ha H1 e _ fun v H2 e2 ⟨p, h1, h2⟩ => by
    subst h1
    refine ⟨p, l.map fun (n : Nat) => (n : Int), rfl, SqL.of h2, by rw [List.length_map]; exact hn, fun ns' r g1 g2 g3 => q _ _ (e2.trans (Ex.new g3)) ⟨r, rfl, fresh_back e2 g3, ?_⟩⟩
    rw [upd_same, nat_sorted g1 g2]
    rfl
theorem ew_plan {p : Addr} {xs : List V} {L : List Nat} {g : Nat → Nat} {G0 : Hp} (ha : Ev ta σ H (dV (.ref p))) (hp : H p = some (.lst xs)) (hx : Iss (L.map fun i => dT [.int (g i : Nat), .int (i : Nat)]) G0 xs H) (hL : L.Pairwise (· < ·)) :
    EvW (iList K (tCB (rSortedPO K) (tCons ta tNil))) σ H L.length (fun i A x B => ∃ T h, x = .ref T ∧ B = A ∧ (L.mergeSort fun h i => decide (g h ≤ g i))[i]? = some h ∧ A T = some (.tup [.int (g h : Nat), .int (h : Nat)])) := fun H1 e R r =>
  ha H1 e _ fun w H2 e2 hw => by
    subst hw
    have e12 := e.trans e2
    have hx2 := hx.up e12
    refine ⟨p, xs, keyAt H2, rfl, SqL.of (e12 _ _ hp), key_mem (f := fun i => ((g i : Nat) : Int)) (g := fun i => ((i : Nat) : Int)) hx2, fun ys q h1 h2 hq => ?_⟩
    have hk := plan_keys hL hx2 h1 h2.perm
    have hlen : ys.length = L.length := by
      rw [h2.perm.length_eq, hx.len, List.length_map]
    have e3 : Ex H2 (upd H2 q (.lst ys)) := Ex.new hq
    refine ⟨q, rfl, ⟨ys, SqL.of upd_same⟩, ?_⟩
    have hW := walk_list (K := K) (a := q) (xs := ys)
    rw [hlen] at hW
    refine r (Itl K q) _ (fun H' => Ex (upd H2 q (.lst ys)) H') (e2.trans e3) (hW.mono (fun H' hG => SqL.of (hG _ _ upd_same)) fun i A x B hi hG ⟨y1, y2⟩ => ?_) fun H' h => h
    have hm : x ∈ xs := h2.perm.mem_iff.mp (List.mem_of_getElem? y2)
    obtain ⟨t, ht1, ht2⟩ := key_mem (f := fun i => ((g i : Nat) : Int)) (g := fun i => ((i : Nat) : Int)) hx2 x hm
    have hki : (ys.map (keyAt H2))[i]? = some (keyAt H2 x) := by
      rw [List.getElem?_map, y2]
      rfl
    rw [hk, List.getElem?_map] at hki
    cases hM : (L.mergeSort fun h i => decide (g h ≤ g i))[i]? with
    | none =>
      rw [hM] at hki
      cases hki
    | some h =>
      rw [hM] at hki
      have ek := Option.some.inj hki
      refine ⟨t, h, ht1, y1, rfl, ?_⟩
      have h4 := hG _ _ (e3 _ _ ht2)
      rw [h4, ← ek]
theorem rd_slack (T : Txt K mg) (hQ : sp_slack K vs H Q E) : Fn (t_slack K) N_slack vs H Q := fn_deed hQ fun A D b a c pn pl ps ns ls e R W Qa hm => by
  obtain ⟨h, rfl, rfl, rfl⟩ := hm
  subst e
  refine go_asg (ev_n0 (ev_var rfl) Qa.hn) ?_
  refine go_ge (ev_var rfl) (ev_hirings_len T R (ev_var rfl)) (fun hb => go_no R (no2 hb) rfl (el_lst1 ev_c)) fun hb => ?_
  have hz := R.hir hb
  obtain ⟨r1, r2, r3, r4, r5, r6, r7⟩ := W.hr h hb
  have ht := W.tn
  refine go_asg (ev_hirings_at T R (ev_var rfl) (ev_var rfl) hb) ?_
  refine go_if (et_not (et_B (ca_is_on hz (ev_var rfl)))) (fun hd => go_no R ((yes2 hb).trans (if_pos ?_)) rfl (el_lst1 ev_c)) fun hd => ?_
  · rw [Bool.not_eq_true'] at hd
    have := of_decide_eq_false hd
    omega
  rw [Bool.not_eq_false'] at hd
  have hon := of_decide_eq_true hd
  have es : a.does (.slack h) = (a, Kv321.say (a.slack h : Nat)) := (yes2 hb).trans (if_neg (by omega))
  have lw := fun n => longer_way W (n := n) hb
  refine go_if (et_B (ca_is_any_in_way (n := (a.hire h).days) R W hb (by omega) (ev_var rfl) (ev_var rfl) (ev_fld (ev_var rfl) (hz.spell T)))) (fun hd => ?_) fun hd => ?_
  · have h0 : a.longerOk h 0 = false := by
      rw [lw 0, Nat.add_zero, hd]
      rfl
    refine go_no R es rfl (Ev.isN (el_lst1 ev_c) ?_)
    rw [slack_none h0]
    rfl
  have h0 : a.longerOk h 0 = true := by
    rw [lw 0, Nat.add_zero, hd]
    rfl
  have hstep : ∀ n, a.longerOk h n = true → inWay a h ((a.hire h).from_ + (a.hire h).days + a.turn + n) = false → a.longerOk h (n + 1) = true := fun n h1 h2 => by
    rw [lw] at h1 ⊢
    rw [Bool.not_eq_true'] at h1 ⊢
    rw [show (a.hire h).days + (n + 1) + a.turn = ((a.hire h).days + n + a.turn) + 1 by omega, List.range_succ, List.any_append, h1, Bool.false_or]
    show (inWay a h _ || false) = false
    rw [Bool.or_false, show (a.hire h).from_ + ((a.hire h).days + n + a.turn) = (a.hire h).from_ + (a.hire h).days + a.turn + n by omega]
    exact h2
  have hstop : ∀ n, inWay a h ((a.hire h).from_ + (a.hire h).days + a.turn + n) = true → a.longerOk h (n + 1) = false := fun n h2 => by
    rw [lw, Bool.not_eq_false', List.any_eq_true]
    refine ⟨(a.hire h).days + n + a.turn, List.mem_range.mpr (by omega), ?_⟩
    rw [show (a.hire h).from_ + ((a.hire h).days + n + a.turn) = (a.hire h).from_ + (a.hire h).days + a.turn + n by omega]
    exact h2
  refine go_asg (v := .int (((a.hire h).from_ + (a.hire h).days + a.turn : Nat) : Int)) ((ev_I (ev_I (ev_fld (ev_var rfl) (hz.first T)) (ev_fld (ev_var rfl) (hz.spell T))) (ev_fld (ev_var rfl) (R.turn T))).is (congrArg V.int (by omega))) ?_
  refine go_for (ew_range1 (n := 60) ev_c (by decide)) (fun k σ' => (∃ s6, σ' = [some (.ref (A .lib)), some (.ref pn), some (.ref pl), some (.int (h : Nat)), some (.ref (A (.hir h))), some (.int (((a.hire h).from_ + (a.hire h).days + a.turn : Nat) : Int)), s6]) ∧ ∀ n, n ≤ k → a.longerOk h n = true)
    (fun k σ' => σ'.set 6 (some (.int (k : Nat)))) ⟨⟨none, rfl⟩, fun n hn => by rw [show n = 0 by omega]; exact h0⟩ (fun k σ' H1 y H2 Qk e1 hk hS hy q => tg_fn hy q) (fun k σ' hk ⟨⟨s6, hσ⟩, hS⟩ => ?_) fun σ' ⟨⟨s6, hσ⟩, hS⟩ => ?_
  · subst hσ
    refine gn_if (et_B (ca_is_in_way (n := (a.hire h).from_ + (a.hire h).days + a.turn + k) R W hb (ev_var rfl) (ev_var rfl) ((ev_I (ev_var rfl) (ev_var rfl)).is (congrArg V.int (by omega))))) (fun hb => ?_) fun hb => ?_
    · refine Go.n (go_no R es rfl (Ev.isN (el_lst1 (ev_var rfl)) ?_))
      have hk' : k < 60 := hk
      rw [slack_at hS (by omega) (Or.inr (hstop k hb))]
      rfl
    · refine gn_next ⟨⟨_, rfl⟩, fun n hn => ?_⟩
      by_cases en : n = k + 1
      · rw [en]
        exact hstep k (hS k (Nat.le_refl k)) hb
      · exact hS n (by omega)
  · subst hσ
    refine go_no R es rfl (Ev.isN (el_lst1 ev_c) ?_)
    rw [slack_at (k := 60) (fun n hn => hS n hn) (Nat.le_refl 60) (Or.inl rfl)]
    rfl
theorem rd_most (T : Txt K mg) (hQ : sp_most K vs H Q E) : Fn (t_most K) N_most vs H Q := fn_deed hQ fun A D b a c pn pl ps ns ls e R W Qa hm => by
  obtain ⟨w, rfl, rfl, rfl⟩ := hm
  subst e
  have hn := W.nH
  have hs := W.nS
  refine go_asg (ev_n0 (ev_var rfl) Qa.hn) ?_
  refine go_ge (ev_var rfl) (ev_works_len T R (ev_var rfl)) (fun hb => go_no R (no2 hb) rfl (el_lst1 ev_c)) fun hb => ?_
  refine go_unpT (eu_tup (vs := [.int 0, .int 0]) (ea_cons ev_c (ea_cons ev_c ea_nil)) (by show 2 ≤ 100000; decide)) ?_
  let F : List Nat := ((List.range a.hires.length).filter fun i => (a.hire i).work == w && decide ((a.hire i).how < 2)).map fun i => (a.hire i).from_
  have hF : (a.hires.filter fun h => h.work == w && decide (h.how < 2)).map Hire.from_ = F := by
    conv => lhs; rw [hires_ix a]
    rw [List.filter_map, List.map_map]
    rfl
  have lF : F.length ≤ 40 := by
    show (List.map _ _).length ≤ 40
    rw [List.length_map]
    have := range_filter_len a.hires.length fun i => (a.hire i).work == w && decide ((a.hire i).how < 2)
    omega
  let L := F.mergeSort fun x y => decide (x ≤ y)
  have lL : L.length ≤ 40 := by
    show (List.mergeSort _ _).length ≤ 40
    rw [List.length_mergeSort]
    exact lF
  let g : Nat × Nat → Nat → Nat × Nat := fun b d => if b.1 < a.onDay w d then (a.onDay w d, d) else b
  have em : a.most w = L.foldl g (0, 0) := by
    unfold Kv321.Abs.most
    rw [hF]
  refine go_for (ew_listD (ev_sortedN (l := F) (Ev.isL (ev_lcL (m := 6) (fun i => .ref (A (.hir i))) (fun i => (a.hire i).work == w && decide ((a.hire i).how < 2)) (fun i => .int ((a.hire i).from_ : Nat)) (ev_hirings T R (ev_var rfl)) (by omega)
      (fun k hk => EvT.is (et_and (et_test (ev_eq (ev_fld (ev_var rfl) ((R.hir hk).work T)) (ev_var rfl))) fun _ => et_B (ca_is_on (R.hir hk) (ev_var rfl))) (by rw [beqN])) fun k hk _ => ev_fld (ev_var rfl) ((R.hir hk).first T)).L ?_) (by omega)).L)
    (fun k σ' => ∃ s6 s7 s8 s9, σ' = [some (.ref (A .lib)), some (.ref pn), some (.ref pl), some (.int (w : Nat)), some (.int ((((L.take k).foldl g (0, 0)).1 : Nat) : Int)), some (.int ((((L.take k).foldl g (0, 0)).2 : Nat) : Int)), s6, s7, s8, s9])
    (fun k σ' => σ'.set 7 (some (.int ((L.getD k 0 : Nat) : Int)))) ⟨none, none, none, none, rfl⟩ (fun k σ' H1 y H2 Qk e1 hk hS hy q => ?_) (fun k σ' hk ⟨s6, s7, s8, s9, hσ⟩ => ?_) fun σ' ⟨s6, s7, s8, s9, hσ⟩ => ?_
  · show _ = vns (List.map _ _)
    rw [← vns_map, List.map_map]
    rfl
  · rw [vns_len] at hk
    refine tg_at hy ?_ q
    unfold vns
    rw [List.getElem?_map, List.getElem?_map, List.getD_eq_getElem?_getD, List.getElem?_eq_getElem hk]
    rfl
  · subst hσ
    rw [vns_len] at hk
    have hk' : k < L.length := hk
    obtain ⟨s, hs⟩ : ∃ s, L[k]? = some s := ⟨_, List.getElem?_eq_getElem hk'⟩
    have es : L.getD k 0 = s := by rw [List.getD_eq_getElem?_getD, hs]; rfl
    have ef : (L.take (k + 1)).foldl g (0, 0) = g ((L.take k).foldl g (0, 0)) s := by
      rw [take_more hs, List.foldl_append]
      rfl
    rw [es]
    refine gn_asg (ca_having_on (w := w) (n := s) R W (ev_var rfl) (ev_var rfl) (ev_var rfl)) ?_
    refine gn_if (et_test (ev_I (i := ((a.onDay w s : Nat) : Int)) (j := ((((L.take k).foldl g (0, 0)).1 : Nat) : Int)) (ev_var rfl) (ev_var rfl))) (fun hb => ?_) fun hb => ?_
    · have h1 := of_decide_eq_true hb
      have eg : g ((L.take k).foldl g (0, 0)) s = (a.onDay w s, s) := if_pos (by omega)
      refine gn_par (ev_var rfl) (ev_var rfl) ⟨s6, some (.int (s : Nat)), some (.int ((a.onDay w s : Nat) : Int)), s9, ?_⟩
      rw [ef, eg]
      rfl
    · have h1 := of_decide_eq_false hb
      have eg : g ((L.take k).foldl g (0, 0)) s = (L.take k).foldl g (0, 0) := if_neg (by omega)
      refine gn_next ⟨s6, some (.int (s : Nat)), some (.int ((a.onDay w s : Nat) : Int)), s9, ?_⟩
      rw [ef, eg]
      rfl
  · subst hσ
    have eT : L.take L.length = L := List.take_length
    rw [vns_len, show (F.mergeSort fun x y => decide (x ≤ y)) = L from rfl, eT, ← em]
    refine go_no R (yes2 hb) rfl (el_lst (vs := [.int ((a.most w).1 : Nat), .int ((a.most w).2 : Nat), .int ((a.sets.filter fun x => x.work == w).length : Nat)]) (ea_cons (ev_var rfl) (ea_cons (ev_var rfl) (ea_cons ((ev_lenD (ev_lcL (m := 9) (fun i => .ref (A (.kit i))) (fun i => (a.set i).work == w) (fun i => .ref (A (.kit i))) (ev_kits T R (ev_var rfl)) (by omega)
      (fun k hk => EvT.is (et_test (ev_eq (ev_fld (ev_var rfl) ((R.kit hk).work T)) (ev_var rfl))) (by rw [beqN])) fun k hk _ => ev_var rfl).L).is (congrArg V.int ?_)) ea_nil))) (by show 3 ≤ 100000; decide))
    rw [List.length_map]
    conv => rhs; rw [sets_ix a]
    rw [List.filter_map, List.length_map]
    rfl
end
end Pl

/-! ### plan, late -/
namespace Pl
open PySem PySem.Spec PyProof.Rows L2
open Kv321 (Abs Hire Set_ at5 map5 five okDesks okDays)
theorem getD_of {l : List Nat} {k h : Nat} (e : l[k]? = some h) : l.getD k 0 = h := by
  rw [List.getD_eq_getElem?_getD, e]
  rfl
theorem get_of {l : List Nat} {k : Nat} (h : k < l.length) : l[k]? = some (l.getD k 0) := by
  rw [List.getD_eq_getElem?_getD, List.getElem?_eq_getElem h]
  rfl
section
variable {K : PySem.W.Frag} {mg : Str → Option Value} {G H : Hp} {σ : L2.St} {te ta tb tl : TE} {vs : List V} {Q : VK} {E : XK} {A D : Tag → Addr} {b : Bool} {a : Abs} {c : Kv321.Call} {d : Dsc} {P : Post} {DD : Ends} {ts tr : TS}
theorem rd_plan (T : Txt K mg) (hQ : sp_plan K vs H Q E) : Fn (t_plan K) N_plan vs H Q := fn_deed hQ fun A D b a c pn pl ps ns ls e R W Qa hm => by
  obtain ⟨s, rfl, rfl, rfl⟩ := hm
  subst e
  have hn := W.nH
  refine go_ge (ev_n0 (ev_var rfl) Qa.hn) (ev_kits_len T R (ev_var rfl)) (fun hb => go_no R (no2 hb) rfl (el_lst1 ev_c)) fun hb => ?_
  let g : Nat → Nat := fun h => (a.hire h).from_
  let f : Nat → Bool := fun h => (a.hire h).set == s && decide ((a.hire h).how < 2)
  let L := (List.range a.hires.length).filter f
  have hL : L.Pairwise (· < ·) := List.Pairwise.filter _ List.pairwise_lt_range
  have lL : L.length ≤ 40 := Nat.le_trans (range_filter_len _ _) hn
  let M := L.mergeSort fun h i => decide (g h ≤ g i)
  have lM : M.length = L.length := List.length_mergeSort L
  refine go_asgD (ev_lcE (m := 3) (m' := 4) (by decide) (fun i => .ref (A (.hir i))) f (fun k => dT [.int (g k : Nat), .int (k : Nat)]) (ev_hirings T R (ev_var rfl)) (by omega)
    (fun k hk => EvT.is (et_and (et_test (ev_eq (ev_fld (ev_var rfl) ((R.hir hk).kit T)) (ev_n0 (ev_var rfl) Qa.hn))) fun _ => et_B (ca_is_on (R.hir hk) (ev_var rfl))) (by show _ = ((a.hire k).set == s && _); rw [beqN]))
    (fun k hk _ => eu_tup (vs := [.int (g k : Nat), .int (k : Nat)]) (ea_cons (ev_fld (ev_var rfl) ((R.hir hk).first T)) (ea_cons (ev_var rfl) ea_nil)) (by show 2 ≤ 100000; decide)) fun _ => stable_T) fun v H1 e1 ⟨p, xs, h1, h2, h3, h4⟩ => ?_
  subst h1
  have hlen : xs.length = L.length := by
    rw [h4.len]
    show (List.map _ L).length = _
    rw [List.length_map]
  have hdo : a.does (.plan s) = (a, Kv321.list M) := yes2 hb
  refine go_no (R.up e1) hdo rfl (Ev.isN (el_cat (ys := vns M) (el_lst1 (ev_lenD ((ev_var rfl).asL h3))).L (Ev.L ?_) ?_) ?_)
  · have h := ev_lc (te := tVar 3) (tt := tYes) (vs := [6, 3]) (g := gTup K 2 (gCons (gName 6) (gCons (gName 3) gNil))) (fun k => ((wipe ((start N_plan [.ref (A .lib), .ref pn, .ref pl]).set 5 (some (.ref p))) [6, 3]).set 6 (some (.int (g (M.getD k 0) : Nat)))).set 3 (some (.int ((M.getD k 0 : Nat) : Int)))) (fun _ => true) (fun k => dV (.int ((M.getD k 0 : Nat) : Int)))
      (ew_plan (K := K) (ta := tVar 5) (σ := (start N_plan [.ref (A .lib), .ref pn, .ref pl]).set 5 (some (.ref p))) (ev_var rfl) h3 h4 hL) (Nat.le_trans lL (by decide))
      (fun k Hc x Hd Qk e2 hk ⟨T', h, i1, i2, i3, i4⟩ q => by
        subst i1 i2
        have eh : M.getD k 0 = h := getD_of i3
        rw [eh] at q
        exact ⟨T', _, rfl, SqT.of i4, rfl, _, _, rfl, _, _, rfl, rfl, q _ (Ex.refl _)⟩)
      (fun k _ => wipe2 (by decide)) (fun k _ => et_yes) (fun k hk _ => ev_var rfl) (fun _ => stable_V)
    refine Ev.N (h.to fun G v H2 _ _ hv => ?_)
    have e : givD L.length (fun _ => true) (fun k => dV (.int ((M.getD k 0 : Nat) : Int))) = (vns M).map dV := by
      unfold givD
      rw [filter_all, ← lM]
      conv => rhs; rw [list_ix M 0]
      rw [← vns_map, List.map_map, List.map_map]
      rfl
    rw [← e]
    exact hv
  · rw [vns_len, lM]
    show 1 + _ ≤ _
    omega
  · rw [hlen, ← lM]
    rfl
def dEn (xs : List V) : Dsc := ⟨fun _ v H => ∃ (p : Addr) (ts : List Addr), v = .ref p ∧ H p = some (.lst (ts.map V.ref)) ∧ ts.length = xs.length ∧ ∀ (j : Nat) (t : Addr) (x : V), ts[j]? = some t → xs[j]? = some x → H t = some (.tup [.int (j : Nat), x]),
  fun e ⟨p, ts, h1, h2, h3, h4⟩ => ⟨p, ts, h1, e _ _ h2, h3, fun j t x g1 g2 => e _ _ (h4 j t x g1 g2)⟩, fun _ h => h⟩
theorem ev_listEnum {xs : List V} (ha : Ev ta σ H (dL xs)) : Ev (tListEnum K ta) σ H (dEn xs) := fun H1 e Q q => ha H1 e _ fun v H2 e2 ⟨p, h1, h2⟩ => by
  subst h1
  exact ⟨p, xs, rfl, SqL.of h2, fun H' p' ts k1 k2 k3 k4 k5 k6 => q _ H' (e2.trans k1) ⟨p', ts, rfl, k4, k5, k6⟩⟩
theorem rd_late (T : Txt K mg) (hQ : sp_late K vs H Q E) : Fn (t_late K) N_late vs H Q := fn_deed hQ fun A D b a c pn pl ps ns ls e R W Qa hm => by
  obtain ⟨h, rfl, rfl, rfl⟩ := hm
  subst e
  have hn := W.nH
  refine go_ge (ev_n0 (ev_var rfl) Qa.hn) (ev_hirings_len T R (ev_var rfl)) (fun hb => go_no R (no2 hb) rfl (el_lst1 ev_c)) fun hb => ?_
  have hz := R.hir hb
  refine go_asg (ev_hirings_at T R (ev_var rfl) (ev_n0 (ev_var rfl) Qa.hn) hb) ?_
  refine go_ne (m := 1) (ev_fld (ev_var rfl) (hz.how T)) ev_c (fun hh => go_no R ((yes2 hb).trans (if_pos hh)) rfl (el_lst1 ev_c)) fun hh => ?_
  refine go_asg (ca_over_day R hz (ev_var rfl) (ev_var rfl)) ?_
  refine go_asgD (ev_listEnum (ev_hirings T R (ev_var rfl))) fun v H1 e1 ⟨p, tt, h1, h2, h3, h4⟩ => ?_
  subst h1
  rw [refs_len] at h3
  have R1 := R.up e1
  have hz1 := hz.up e1
  let f : Nat → Bool := fun o => (a.hire o).how == 0 && (a.hire o).set == (a.hire h).set
  let L := (List.range a.hires.length).filter f
  have lL : L.length ≤ 40 := Nat.le_trans (range_filter_len _ _) hn
  have hml : (tt.map V.ref).length = a.hires.length := by rw [List.length_map, h3]
  have hlc := ev_lc (H := H1) (te := tTup (tCons (tVar 6) (tCons (tFld K (tVar 7) "first") tNil))) (tt := tAnd (tTest (tOp rEq (tFld K (tVar 7) "how") (tC (.int (0))))) (tTest (tOp rEq (tFld K (tVar 7) "kit") (tFld K (tVar 3) "kit")))) (vs := [6, 7]) (g := gTup K 2 (gCons (gName 6) (gCons (gName 7) gNil)))
    (σ := [some (.ref (A .lib)), some (.ref pn), some (.ref pl), some (.ref (A (.hir h))), some (.int ((a.over (a.hire h) : Nat) : Int)), some (.ref p), none, none, none, none])
    (fun k => [some (.ref (A .lib)), some (.ref pn), some (.ref pl), some (.ref (A (.hir h))), some (.int ((a.over (a.hire h) : Nat) : Int)), some (.ref p), some (.int (k : Nat)), some (.ref (A (.hir k))), none, none]) f (fun k => dT [.int (k : Nat), .int ((a.hire k).from_ : Nat)])
    (ew_list (K := K) (tl := tVar 5) (ev_var rfl) (SqL.of h2)) (by omega)
    (fun k Hc x Hd Qk e2 hk hy q => by
      rw [hml] at hk
      obtain ⟨t, ht⟩ : ∃ t, tt[k]? = some t := ⟨_, List.getElem?_eq_getElem (by omega)⟩
      exact tg_tup hy (by rw [List.getElem?_map, ht]; rfl) (e2 _ _ (h4 k t (.ref (A (.hir k))) ht (by unfold refs; rw [List.getElem?_map, List.getElem?_range hk]; rfl))) q)
    (fun k _ => rfl) (fun k hk => by
      rw [hml] at hk
      refine EvT.is (et_and (et_test (ev_eq (ev_fld (ev_var rfl) ((R1.hir hk).how T)) ev_c)) fun _ => et_test (ev_eq (ev_fld (ev_var rfl) ((R1.hir hk).kit T)) (ev_fld (ev_var rfl) (hz1.kit T)))) ?_
      show _ = ((a.hire k).how == 0 && (a.hire k).set == (a.hire h).set)
      rw [beqN, beqN]
      rfl)
    (fun k hk _ => by
      rw [hml] at hk
      exact eu_tup (vs := [.int (k : Nat), .int ((a.hire k).from_ : Nat)]) (ea_cons (ev_var rfl) (ea_cons (ev_fld (ev_var rfl) ((R1.hir hk).first T)) ea_nil)) (by show 2 ≤ 100000; decide)) (fun _ => stable_T)
  refine go_asgD hlc fun v H2 e2 ⟨p2, xs, g1, g2, g3, g4⟩ => ?_
  subst g1
  rw [hml] at g4
  have hlen : xs.length = L.length := by
    rw [g4.len]
    show (List.map _ L).length = _
    rw [List.length_map]
  have hdo : a.does (.late h) = (a, ⟨(a.late (a.hire h) : Nat), (a.others (some h)).filter fun i => (a.hire i).how == 0 && ((a.hire i).set == (a.hire h).set && decide ((a.hire i).from_ < a.over (a.hire h)))⟩) := (yes2 hb).trans (if_neg (by omega))
  have hW : (a.others (some h)).filter (fun i => (a.hire i).how == 0 && ((a.hire i).set == (a.hire h).set && decide ((a.hire i).from_ < a.over (a.hire h)))) = L.filter fun i => decide ((a.hire i).from_ < a.over (a.hire h)) := by
    show List.filter _ (List.filter _ _) = List.filter _ (List.filter _ _)
    rw [List.filter_filter, List.filter_filter]
    refine List.filter_congr fun i _ => ?_
    show _ = (decide _ && ((a.hire i).how == 0 && (a.hire i).set == (a.hire h).set))
    by_cases e : i = h
    · have h0 : ((a.hire i).how == 0) = false := by
        rw [e, hh]
        rfl
      rw [h0, Bool.false_and, Bool.false_and, Bool.false_and, Bool.and_false]
    · have h0 : (some h != some i) = true := by
        rw [bne_iff_ne]
        intro z
        exact e (Option.some.inj z).symm
      rw [h0, Bool.and_true]
      cases (a.hire i).how == 0 <;> cases (a.hire i).set == (a.hire h).set <;> cases decide ((a.hire i).from_ < a.over (a.hire h)) <;> rfl
  have R2 := R1.up e2
  have hz2 := hz1.up e2
  let p2f : Nat → Bool := fun i => decide ((a.hire i).from_ < a.over (a.hire h))
  refine go_no R2 hdo rfl (Ev.isN (el_cat (ys := vns (L.filter p2f)) (el_lst1 (ca_late_by R2 hz2 (ev_var rfl) (ev_var rfl))).L (Ev.L ?_) ?_) ?_)
  · have hl2 := ev_lc (H := H2) (te := tVar 6) (tt := tTest (tOp rLtI (tVar 9) (tVar 4))) (vs := [6, 9]) (g := gTup K 2 (gCons (gName 6) (gCons (gName 9) gNil)))
      (σ := [some (.ref (A .lib)), some (.ref pn), some (.ref pl), some (.ref (A (.hir h))), some (.int ((a.over (a.hire h) : Nat) : Int)), some (.ref p), none, none, some (.ref p2), none])
      (fun k => [some (.ref (A .lib)), some (.ref pn), some (.ref pl), some (.ref (A (.hir h))), some (.int ((a.over (a.hire h) : Nat) : Int)), some (.ref p), some (.int ((L.getD k 0 : Nat) : Int)), none, some (.ref p2), some (.int ((a.hire (L.getD k 0)).from_ : Nat))]) (fun k => p2f (L.getD k 0)) (fun k => dV (.int ((L.getD k 0 : Nat) : Int)))
      (ew_list (K := K) (tl := tVar 8) (ev_var rfl) (SqL.of g3)) (by omega)
      (fun k Hc x Hd Qk e3 hk hy q => by
        rw [hlen] at hk
        obtain ⟨i1, i2⟩ := hy
        subst i1
        obtain ⟨dd, j1, j2⟩ := g4.get i2
        have j3 : (L.map fun k => dT [.int (k : Nat), .int ((a.hire k).from_ : Nat)])[k]? = some dd := j1
        rw [List.getElem?_map, get_of hk] at j3
        have j4 := Option.some.inj j3
        subst j4
        obtain ⟨t, l1, l2⟩ := j2
        subst l1
        exact ⟨t, _, rfl, SqT.of (e3 _ _ l2), rfl, _, _, rfl, _, _, rfl, rfl, q _ (Ex.refl _)⟩)
      (fun k _ => rfl) (fun k hk => EvT.is (et_test (ev_I (i := ((a.hire (L.getD k 0)).from_ : Nat)) (j := ((a.over (a.hire h) : Nat) : Int)) (ev_var rfl) (ev_var rfl))) (decide_eq_decide.mpr (by omega))) (fun k hk _ => ev_var rfl) (fun _ => stable_V)
    refine Ev.N (hl2.to fun G v H3 _ _ hv => ?_)
    have e : givD xs.length (fun k => p2f (L.getD k 0)) (fun k => dV (.int ((L.getD k 0 : Nat) : Int))) = (vns (L.filter p2f)).map dV := by
      unfold givD
      rw [hlen, ← filter_ix L p2f, ← vns_map, List.map_map, List.map_map]
      rfl
    rw [← e]
    exact hv
  · rw [vns_len]
    have := List.length_filter_le p2f L
    show 1 + _ ≤ _
    omega
  · unfold ansL
    show _ = _ :: vns _
    rw [hW]
    rfl
end
end Pl

/-! ### what stays true of the state -/
namespace Pl
open PySem PySem.Spec PyProof.Rows L2
open Kv321 (Abs Hire Set_ at5 map5 five okDesks okDays rising)
def ctr (w i : Nat) (z : Hire) : Nat := if z.work == w && z.how == 1 then at5 z.loose i else 0
theorem sum_filter {α : Type} (p : α → Bool) (f : α → Nat) : ∀ l : List α, ((l.filter p).map f).sum = (l.map fun x => if p x = true then f x else 0).sum
  | [] => rfl
  | x :: l => by
    have ih := sum_filter p f l
    rw [List.filter_cons, List.map_cons, List.sum_cons, ← ih]
    by_cases h : p x = true
    · rw [if_pos h, if_pos h, List.map_cons, List.sum_cons]
    · rw [if_neg h, if_neg h, Nat.zero_add]
theorem sum_sub {α : Type} {p q : α → Bool} {f : α → Nat} : ∀ {l : List α}, (∀ x ∈ l, p x = true → q x = true) → ((l.filter p).map f).sum ≤ ((l.filter q).map f).sum
  | [], _ => Nat.le_refl _
  | x :: l, h => by
    have ih := sum_sub (p := p) (q := q) (f := f) (l := l) fun y hy => h y (List.mem_cons_of_mem _ hy)
    have hx := h x List.mem_cons_self
    rw [List.filter_cons, List.filter_cons]
    by_cases h1 : p x = true
    · rw [if_pos h1, if_pos (hx h1), List.map_cons, List.map_cons, List.sum_cons, List.sum_cons]
      omega
    · rw [if_neg h1]
      by_cases h2 : q x = true
      · rw [if_pos h2, List.map_cons, List.sum_cons]
        omega
      · rw [if_neg h2]
        exact ih
theorem sum_zero {α : Type} {f : α → Nat} : ∀ {l : List α}, (∀ x ∈ l, f x = 0) → (l.map f).sum = 0
  | [], _ => rfl
  | x :: l, h => by
    rw [List.map_cons, List.sum_cons, h x List.mem_cons_self, sum_zero fun y hy => h y (List.mem_cons_of_mem _ hy)]
theorem sum_set {α : Type} {f : α → Nat} {v d : α} : ∀ {l : List α} {i : Nat}, i < l.length → ((l.set i v).map f).sum + f (l.getD i d) = (l.map f).sum + f v
  | [], _, h => by cases h
  | x :: l, 0, _ => by
    show f v + (l.map f).sum + f x = f x + (l.map f).sum + f v
    omega
  | x :: l, i + 1, h => by
    have ih := sum_set (f := f) (v := v) (d := d) (l := l) (i := i) (by simpa using h)
    show f x + ((l.set i v).map f).sum + f (l.getD i d) = f x + (l.map f).sum + f v
    omega
theorem out_sum (a : Abs) (w i : Nat) : outSum a w i = (a.hires.map (ctr w i)).sum := by
  unfold outSum
  rw [sum_filter]
  rfl
theorem out_upH {a : Abs} {h w i : Nat} {z : Hire} (hh : h < a.hires.length) : outSum (upH a h z) w i + ctr w i (a.hire h) = outSum a w i + ctr w i z := by
  rw [out_sum, out_sum]
  exact sum_set hh
theorem ctr_le {a : Abs} {h w i : Nat} (hh : h < a.hires.length) : ctr w i (a.hire h) ≤ outSum a w i := by
  have := out_upH (a := a) (h := h) (w := w) (i := i) (z := ⟨0, 0, 0, [], 0, false, 0, [], 3⟩) hh
  have e : ctr w i ⟨0, 0, 0, [], 0, false, 0, [], 3⟩ = 0 := by
    unfold ctr
    rw [show ((3 : Nat) == 1) = false from rfl, Bool.and_false]
    rfl
  rw [e] at this
  omega
theorem out_none {a : Abs} (W : Wf a) {w i : Nat} (hw : a.works.length ≤ w) : outSum a w i = 0 := by
  rw [out_sum]
  refine sum_zero fun z hz => ?_
  obtain ⟨h, hh, e⟩ := List.getElem_of_mem hz
  have h1 := (W.hr h hh).1
  have h2 : a.hire h = z := by
    unfold Kv321.Abs.hire
    rw [List.getD_eq_getElem?_getD, List.getElem?_eq_getElem hh, ← e]
    rfl
  rw [h2] at h1
  unfold ctr
  rw [beq_eq_false_iff_ne.mpr (show z.work ≠ w by omega), Bool.false_and]
  rfl
theorem at5_five (i : Nat) : at5 five i = 0 := by
  match i with
  | 0 => rfl
  | 1 => rfl
  | 2 => rfl
  | 3 => rfl
  | 4 => rfl
  | n + 5 => rfl
theorem five_len : five.length = 5 := rfl
theorem rising_len : ∀ {l : List Nat} {m n : Nat}, rising l = true → (∀ x ∈ l, m ≤ x ∧ x < n) → m ≤ n → l.length + m ≤ n
  | [], _, _, _, _, h => by
    show 0 + _ ≤ _
    omega
  | [x], m, n, _, h, _ => by
    have := h x List.mem_cons_self
    show 1 + m ≤ n
    omega
  | x :: y :: l, m, n, hr, h, _ => by
    unfold rising at hr
    rw [Bool.and_eq_true] at hr
    have h1 := of_decide_eq_true hr.1
    have hx := h x List.mem_cons_self
    have hy := h y (List.mem_cons_of_mem _ List.mem_cons_self)
    have hm : ∀ z ∈ y :: l, m + 1 ≤ z ∧ z < n := fun z hz => by
      have h2 := h z (List.mem_cons_of_mem _ hz)
      refine ⟨?_, h2.2⟩
      obtain ⟨k, hk, e⟩ := List.getElem_of_mem hz
      have mono : ∀ k, k < (y :: l).length → y ≤ at5 (y :: l) k := fun k => by
        induction k with
        | zero => exact fun _ => Nat.le_refl y
        | succ k ih =>
          intro hk
          have h3 := (rising_iff (y :: l)).mp hr.2 k hk
          have h4 := ih (by omega)
          omega
      have h3 := mono k hk
      have h4 : at5 (y :: l) k = z := by
        unfold at5
        rw [List.getD_eq_getElem?_getD, List.getElem?_eq_getElem hk, e]
        rfl
      omega
    have ih := rising_len (l := y :: l) (m := m + 1) (n := n) hr.2 hm (by omega)
    show (y :: l).length + 1 + m ≤ n
    omega
theorem Wf.same {a a' : Abs} (W : Wf a) (e1 : a'.works = a.works) (e2 : a'.sets = a.sets) (e3 : a'.hires = a.hires) (e4 : a'.turn = a.turn) (e5 : a'.fine = a.fine) (e6 : a.today ≤ a'.today) : Wf a' := by
  have w1 : ∀ i, a'.work i = a.work i := fun i => by unfold Kv321.Abs.work; rw [e1]
  have w2 : ∀ i, a'.set i = a.set i := fun i => by unfold Kv321.Abs.set; rw [e2]
  have w3 : ∀ i, a'.hire i = a.hire i := fun i => by unfold Kv321.Abs.hire; rw [e3]
  have w4 : ∀ w i, outSum a' w i = outSum a w i := fun w i => by unfold outSum; rw [e3]
  refine ⟨by rw [e1]; exact W.nW, by rw [e2]; exact W.nS, by rw [e3]; exact W.nH, by rw [e4]; exact W.tn, by rw [e5]; exact W.fn, fun i hi => ?_, fun i hi => ?_, fun i hi => ?_, fun i hi ho => ?_, fun i hi => ?_, fun w i => ?_⟩
  · rw [w1]
    rw [e1] at hi
    exact W.wk i hi
  · rw [w2, e1, w1]
    rw [e2] at hi
    exact W.st i hi
  · rw [w3, e1, e2]
    rw [e3] at hi
    exact W.hr i hi
  · rw [w3] at ho ⊢
    rw [e3] at hi
    exact Nat.le_trans (W.ou i hi ho) e6
  · rw [w3, w2]
    rw [e3] at hi
    exact W.sw i hi
  · rw [w4, w1]
    exact W.ln w i
theorem Wf.upH {a : Abs} (W : Wf a) {h : Nat} {z : Hire} (hh : h < a.hires.length) (h1 : z.work < a.works.length ∧ z.set < a.sets.length ∧ z.desks.length = 5 ∧ z.loose.length = 5 ∧ 1 ≤ z.concerts ∧ 1 ≤ z.days ∧ z.from_ + z.days ≤ 1000) (h2 : z.how = 1 → z.from_ ≤ a.today) (h4 : (a.set z.set).work = z.work)
    (h3 : ∀ w i, outSum a w i + ctr w i z ≤ at5 (a.work w).loose i + ctr w i (a.hire h)) : Wf (upH a h z) := by
  refine ⟨W.nW, W.nS, ?_, W.tn, W.fn, W.wk, W.st, fun i hi => ?_, fun i hi ho => ?_, fun i hi => ?_, fun w i => ?_⟩
  · show (a.hires.set h z).length ≤ 40
    rw [List.length_set]
    exact W.nH
  · have hi' : i < a.hires.length := by
      have : i < (a.hires.set h z).length := hi
      rw [List.length_set] at this
      exact this
    rw [upH_hire hh]
    split
    · exact h1
    · exact W.hr i hi'
  · have hi' : i < a.hires.length := by
      have : i < (a.hires.set h z).length := hi
      rw [List.length_set] at this
      exact this
    rw [upH_hire hh] at ho ⊢
    split at ho
    · rename_i e
      rw [if_pos e]
      exact h2 ho
    · rename_i e
      rw [if_neg e]
      exact W.ou i hi' ho
  · have hi' : i < a.hires.length := by
      have : i < (a.hires.set h z).length := hi
      rw [List.length_set] at this
      exact this
    rw [upH_hire hh]
    split
    · exact h4
    · exact W.sw i hi'
  · have e1 := out_upH (a := a) (h := h) (w := w) (i := i) (z := z) hh
    have e2 := h3 w i
    show outSum (Pl.upH a h z) w i ≤ at5 (a.work w).loose i
    omega
theorem Wf.upS {a : Abs} (W : Wf a) {s : Nat} {z : Set_} (hs : s < a.sets.length) (h1 : z.work < a.works.length ∧ z.strings.length = 5 ∧ z.gone.length = 5 ∧ (∀ j, j < 5 → at5 z.gone j ≤ at5 z.strings j) ∧ z.missing.length ≤ (a.work z.work).winds) (h2 : z.work = (a.set s).work) : Wf (upS a s z) := by
  have hl : (a.sets.set s z).length = a.sets.length := List.length_set
  refine ⟨W.nW, ?_, W.nH, W.tn, W.fn, W.wk, fun i hi => ?_, fun i hi => ?_, W.ou, fun i hi => ?_, W.ln⟩
  · show (a.sets.set s z).length ≤ 12
    rw [hl]
    exact W.nS
  · have hi' : i < a.sets.length := by
      have : i < (a.sets.set s z).length := hi
      rw [hl] at this
      exact this
    rw [upS_set hs]
    split
    · exact h1
    · exact W.st i hi'
  · have := W.hr i hi
    refine ⟨this.1, ?_, this.2.2⟩
    show _ < (a.sets.set s z).length
    rw [hl]
    exact this.2.1
  · have h6 := W.sw i hi
    show ((Pl.upS a s z).set (a.hire i).set).work = (a.hire i).work
    rw [upS_set hs]
    split
    · rename_i e
      rw [h2, ← e]
      exact h6
    · exact h6
theorem Wf.upW {a : Abs} (W : Wf a) {i : Nat} {l : List Nat} (hi : i < a.works.length) (h5 : l.length = 5) (h3 : ∀ j, outSum a i j ≤ at5 l j) : Wf (upW a i { a.work i with loose := l }) := by
  have hl : (a.works.set i { a.work i with loose := l }).length = a.works.length := List.length_set
  refine ⟨?_, W.nS, W.nH, W.tn, W.fn, fun j hj => ?_, fun j hj => ?_, fun j hj => ?_, W.ou, W.sw, fun w j => ?_⟩
  · show (a.works.set i { a.work i with loose := l }).length ≤ 8
    rw [hl]
    exact W.nW
  · have hj' : j < a.works.length := by
      have : j < (a.works.set i { a.work i with loose := l }).length := hj
      rw [hl] at this
      exact this
    rw [upW_work hi]
    split
    · exact ⟨h5, (W.wk i hi).2⟩
    · exact W.wk j hj'
  · have := W.st j hj
    refine ⟨?_, this.2.1, this.2.2.1, this.2.2.2.1, ?_⟩
    · show _ < (a.works.set i { a.work i with loose := l }).length
      rw [hl]
      exact this.1
    · show _ ≤ ((Pl.upW a i { a.work i with loose := l }).work (a.set j).work).winds
      rw [upW_work hi]
      split
      · rename_i e
        have h6 := this.2.2.2.2
        rw [e] at h6
        exact h6
      · exact this.2.2.2.2
  · have := W.hr j hj
    refine ⟨?_, this.2⟩
    show _ < (a.works.set i { a.work i with loose := l }).length
    rw [hl]
    exact this.1
  · show outSum a w j ≤ at5 ((Pl.upW a i { a.work i with loose := l }).work w).loose j
    rw [upW_work hi]
    split
    · rename_i e
      rw [e]
      exact h3 j
    · exact W.ln w j
theorem Wf.begun {t f : Nat} (h1 : t ≤ 14) (h2 : f ≤ 1000) : Wf (Kv321.begun t f) :=
  ⟨by show 0 ≤ 8; omega, by show 0 ≤ 12; omega, by show 0 ≤ 40; omega, h1, h2, fun i hi => (Nat.not_lt_zero i hi).elim, fun i hi => (Nat.not_lt_zero i hi).elim, fun i hi => (Nat.not_lt_zero i hi).elim, fun i hi => (Nat.not_lt_zero i hi).elim, fun i hi => (Nat.not_lt_zero i hi).elim, fun w i => Nat.zero_le _⟩
theorem Wf.adW {a : Abs} (W : Wf a) {n f m p : Nat} (h0 : a.works.length < 8) (h1 : n ≤ 30) (h2 : f ≤ 10000) (h3 : m ≤ 10000) (h4 : p ≤ 1000) : Wf (adW a ⟨n, f, m, p, five⟩) := by
  have hl : (a.works ++ [(⟨n, f, m, p, five⟩ : Kv321.Work)]).length = a.works.length + 1 := by rw [List.length_append]; rfl
  refine ⟨?_, W.nS, W.nH, W.tn, W.fn, fun j hj => ?_, fun j hj => ?_, fun j hj => ?_, W.ou, W.sw, fun w j => ?_⟩
  · show (a.works ++ [_]).length ≤ 8
    rw [hl]
    omega
  · have hj' : j < a.works.length + 1 := by
      have : j < (a.works ++ [(⟨n, f, m, p, five⟩ : Kv321.Work)]).length := hj
      rw [hl] at this
      exact this
    rw [adW_work]
    split
    · exact ⟨rfl, h1, h2, h3, h4⟩
    · exact W.wk j (by omega)
  · have := W.st j hj
    refine ⟨?_, this.2.1, this.2.2.1, this.2.2.2.1, ?_⟩
    · show _ < (a.works ++ [_]).length
      rw [hl]
      have h6 : (a.set j).work < a.works.length := this.1
      show (a.set j).work < _
      omega
    · show _ ≤ ((Pl.adW a _).work (a.set j).work).winds
      rw [adW_work, if_neg (by omega)]
      exact this.2.2.2.2
  · have := W.hr j hj
    refine ⟨?_, this.2⟩
    show _ < (a.works ++ [_]).length
    rw [hl]
    have h6 : (a.hire j).work < a.works.length := this.1
    show (a.hire j).work < _
    omega
  · show outSum a w j ≤ at5 ((Pl.adW a _).work w).loose j
    rw [adW_work]
    split
    · rename_i e
      rw [out_none W (by omega)]
      omega
    · exact W.ln w j
theorem Wf.adS {a : Abs} (W : Wf a) {w : Nat} {l : List Nat} (h0 : a.sets.length < 12) (hw : w < a.works.length) (h5 : l.length = 5) : Wf (adS a ⟨w, l, [], five, none⟩) := by
  have hl : (a.sets ++ [(⟨w, l, [], five, none⟩ : Set_)]).length = a.sets.length + 1 := by rw [List.length_append]; rfl
  refine ⟨W.nW, ?_, W.nH, W.tn, W.fn, W.wk, fun j hj => ?_, fun j hj => ?_, W.ou, fun j hj => ?_, W.ln⟩
  · show (a.sets ++ [_]).length ≤ 12
    rw [hl]
    omega
  · have hj' : j < a.sets.length + 1 := by
      have : j < (a.sets ++ [(⟨w, l, [], five, none⟩ : Set_)]).length := hj
      rw [hl] at this
      exact this
    rw [adS_set]
    split
    · exact ⟨hw, h5, rfl, fun j _ => by rw [at5_five]; omega, by show 0 ≤ _; omega⟩
    · exact W.st j (by omega)
  · have := W.hr j hj
    refine ⟨this.1, ?_, this.2.2⟩
    show _ < (a.sets ++ [_]).length
    rw [hl]
    have h6 : (a.hire j).set < a.sets.length := this.2.1
    show (a.hire j).set < _
    omega
  · have h6 := W.sw j hj
    have h7 := (W.hr j hj).2.1
    show ((Pl.adS a _).set (a.hire j).set).work = (a.hire j).work
    rw [adS_set, if_neg (by omega)]
    exact h6
theorem Wf.adH {a : Abs} (W : Wf a) {z : Hire} (h0 : a.hires.length < 40) (hz : z.how = 0) (h1 : z.work < a.works.length ∧ z.set < a.sets.length ∧ z.desks.length = 5 ∧ z.loose.length = 5 ∧ 1 ≤ z.concerts ∧ 1 ≤ z.days ∧ z.from_ + z.days ≤ 1000) (h4 : (a.set z.set).work = z.work) : Wf (adH a z) := by
  have hl : (a.hires ++ [z]).length = a.hires.length + 1 := by rw [List.length_append]; rfl
  refine ⟨W.nW, W.nS, ?_, W.tn, W.fn, W.wk, W.st, fun j hj => ?_, fun j hj ho => ?_, fun j hj => ?_, fun w i => ?_⟩
  · show (a.hires ++ [z]).length ≤ 40
    rw [hl]
    omega
  · have hj' : j < a.hires.length + 1 := by
      have : j < (a.hires ++ [z]).length := hj
      rw [hl] at this
      exact this
    rw [adH_hire]
    split
    · exact h1
    · exact W.hr j (by omega)
  · have hj' : j < a.hires.length + 1 := by
      have : j < (a.hires ++ [z]).length := hj
      rw [hl] at this
      exact this
    rw [adH_hire] at ho ⊢
    split at ho
    · rw [hz] at ho
      cases ho
    · rename_i e
      rw [if_neg e]
      exact W.ou j (by omega) ho
  · have hj' : j < a.hires.length + 1 := by
      have : j < (a.hires ++ [z]).length := hj
      rw [hl] at this
      exact this
    rw [adH_hire]
    split
    · exact h4
    · exact W.sw j (by omega)
  · have e : outSum (Pl.adH a z) w i = outSum a w i := by
      rw [out_sum, out_sum]
      show ((a.hires ++ [z]).map _).sum = _
      rw [List.map_append, List.sum_append]
      have : ctr w i z = 0 := by
        unfold ctr
        rw [hz, show ((0 : Nat) == 1) = false from rfl, Bool.and_false]
        rfl
      show _ + (ctr w i z + 0) = _
      rw [this]
      rfl
    rw [e]
    exact W.ln w i
theorem set1_up {a : Abs} {h : Nat} {f : Hire → Hire} (hh : h < a.hires.length) : a.set1 h f = upH a h (f (a.hire h)) := by
  unfold Kv321.Abs.set1 upH
  rw [mod_set hh]
  rfl
theorem sets_up {a : Abs} {s : Nat} {f : Set_ → Set_} (hs : s < a.sets.length) : { a with sets := a.sets.modify s f } = upS a s (f (a.set s)) := by
  unfold upS
  rw [mod_set hs]
  rfl
theorem works_up {a : Abs} {w : Nat} {f : Kv321.Work → Kv321.Work} (hw : w < a.works.length) : { a with works := a.works.modify w f } = upW a w (f (a.work w)) := by
  unfold upW
  rw [mod_set hw]
  rfl
theorem hasH_lt {a : Abs} {h : Nat} (e : ¬ a.hasH h = false) : h < a.hires.length := by
  unfold Kv321.Abs.hasH at e
  rw [Bool.not_eq_false] at e
  exact of_decide_eq_true e
theorem hasS_lt {a : Abs} {h : Nat} (e : ¬ a.hasS h = false) : h < a.sets.length := by
  unfold Kv321.Abs.hasS at e
  rw [Bool.not_eq_false] at e
  exact of_decide_eq_true e
theorem hasW_lt {a : Abs} {h : Nat} (e : ¬ a.hasW h = false) : h < a.works.length := by
  unfold Kv321.Abs.hasW at e
  rw [Bool.not_eq_false] at e
  exact of_decide_eq_true e
theorem ctr_off {z : Hire} {w i : Nat} (h : z.how ≠ 1) : ctr w i z = 0 := by
  unfold ctr
  rw [beq_eq_false_iff_ne.mpr h, Bool.and_false]
  rfl
/-- the hires that are out have no more loose parts than all others have today -/
theorem out_lent {a : Abs} (W : Wf a) {h w i : Nat} (hh : h < a.hires.length) (h0 : (a.hire h).how = 0) : outSum a w i ≤ a.lent (some h) w i a.today := by
  have e1 : outSum a w i = (((List.range a.hires.length).filter fun o => (a.hire o).work == w && (a.hire o).how == 1).map fun o => at5 (a.hire o).loose i).sum := by
    unfold outSum
    conv => lhs; rw [hires_ix a]
    rw [List.filter_map, List.map_map]
    rfl
  rw [e1]
  unfold Kv321.Abs.lent Kv321.Abs.others
  rw [List.filter_filter]
  refine sum_sub fun o ho hp => ?_
  have hol := List.mem_range.mp ho
  rw [Bool.and_eq_true] at hp
  have p2 := beq_iff_eq.mp hp.2
  have hne : (some h != some o) = true := by
    rw [bne_iff_ne]
    intro z
    have := Option.some.inj z
    subst this
    rw [h0] at p2
    cases p2
  have h3 := W.ou o hol p2
  have h4 : a.today < a.over (a.hire o) := by
    unfold Kv321.Abs.over
    rw [if_pos p2]
    omega
  rw [hp.1, hne, decide_eq_true (show (a.hire o).how < 2 by omega), decide_eq_true h3, decide_eq_true h4]
  rfl
theorem Wf_does {a : Abs} (W : Wf a) (c : Kv321.Call) : Wf (a.does c).1 := by
  cases c with
  | begin_ t f =>
    simp only [Kv321.Abs.does]
    split
    · exact W
    · exact Wf.begun (by omega) (by omega)
  | work n f m p =>
    simp only [Kv321.Abs.does]
    split
    · exact W
    · split
      · exact W
      · exact W.adW (by omega) (by omega) (by omega) (by omega) (by omega)
  | set w l =>
    simp only [Kv321.Abs.does]
    split
    · exact W
    · rename_i h1
      split
      · exact W
      · rename_i h2
        split
        · exact W
        · exact W.adS (by omega) (hasW_lt h1) (okDesks_len (by rw [Bool.not_eq_false] at h2; exact h2))
  | loose w i n =>
    simp only [Kv321.Abs.does]
    split
    · exact W
    · rename_i h1
      split
      · exact W
      · split
        · exact W
        · have hw := hasW_lt h1
          rw [works_up hw]
          have w5 := (W.wk w hw).1
          refine W.upW hw (by rw [List.length_modify]; exact w5) fun j => ?_
          have h3 := W.ln w j
          have h4 : at5 (a.work w).loose j ≤ at5 ((a.work w).loose.modify i fun y => y + n) j := by
            unfold at5
            rw [List.getD_eq_getElem?_getD, List.getD_eq_getElem?_getD, List.getElem?_modify]
            cases (a.work w).loose[j]? with
            | none => exact Nat.le_refl _
            | some y =>
              show y ≤ (if i = j then y + n else y)
              split <;> omega
          omega
  | hire w f n k cl l =>
    simp only [Kv321.Abs.does]
    split
    · exact W
    · rename_i h1
      split
      · exact W
      · rename_i h2
        split
        · exact W
        · split
          · exact W
          · rename_i h3 t ht
            rw [not_or, not_or, not_or, not_or, Bool.not_eq_false, Bool.not_eq_false] at h2
            obtain ⟨o1, o2, o3, o4⟩ := okDays_nums h2.1
            have hw := hasW_lt h1
            have htl : t < a.sets.length ∧ (a.set t).work = w := by
              cases hs : a.sets_ w f n l with
              | nil =>
                rw [best_none hs] at ht
                cases ht
              | cons s r =>
                obtain ⟨t', g1, g2, _⟩ := best_of_sets hs
                rw [g2] at ht
                have e := Option.some.inj ht
                subst e
                rw [← hs] at g1
                have g3 := (List.mem_filter.mp g1).2
                unfold Kv321.Abs.does_ at g3
                rw [Bool.and_eq_true] at g3
                exact ⟨List.mem_range.mp (List.mem_filter.mp g1).1, beq_iff_eq.mp g3.1⟩
            refine W.adH (by omega) rfl ⟨hw, htl.1, okDesks_len h2.2.2.2.2, map5_len _, by show 1 ≤ k; omega, o2, o4⟩ htl.2
  | cancel h =>
    simp only [Kv321.Abs.does]
    split
    · exact W
    · rename_i h1
      have hh := hasH_lt h1
      split
      · exact W
      · rename_i h2
        rw [set1_up hh]
        refine W.upH hh (W.hr h hh) (fun z => by cases z) (W.sw h hh) fun w i => ?_
        have := W.ln w i
        rw [ctr_off (z := { a.hire h with how := 3 }) (by show (3 : Nat) ≠ 1; decide)]
        omega
  | send h =>
    simp only [Kv321.Abs.does]
    split
    · exact W
    · rename_i h1
      have hh := hasH_lt h1
      repeat (split; exact W)
      rename_i h2 h3 h4 h5 h6 h7
      rw [set1_up hh]
      have h20 : (a.hire h).how = 0 := by omega
      refine W.upH hh (W.hr h hh) (fun z => by show (a.hire h).from_ ≤ _; omega) (W.sw h hh) fun w i => ?_
      rw [ctr_off (z := a.hire h) (by omega)]
      unfold ctr
      split
      · rename_i hc
        rw [Bool.and_eq_true] at hc
        have hw := beq_iff_eq.mp hc.1
        have hw' : (a.hire h).work = w := hw
        show outSum a w i + at5 (a.hire h).loose i ≤ _
        by_cases i5 : i < 5
        · rw [Bool.not_eq_true] at h7
          rw [short_eq, Bool.or_eq_false_iff, Bool.not_eq_false'] at h7
          have q := List.all_eq_true.mp h7.2 i (List.mem_range.mpr i5)
          have hl := out_lent W (w := w) (i := i) hh h20
          have hln := W.ln w i
          rcases Bool.or_eq_true_iff.mp q with q | q
          · have q2 : (at5 (a.hire h).loose i : Int) = 0 := of_decide_eq_true q
            omega
          · have q2 : (at5 (a.hire h).loose i : Int) ≤ freeI a (some h) (a.hire h).work i a.today := of_decide_eq_true q
            unfold freeI at q2
            rw [hw'] at q2
            omega
        · have l5 := (W.hr h hh).2.2.2.1
          have : at5 (a.hire h).loose i = 0 := by
            unfold at5
            rw [List.getD_eq_getElem?_getD, List.getElem?_eq_none (by omega)]
            rfl
          rw [this]
          exact W.ln w i
      · exact W.ln w i
  | back h w l =>
    simp only [Kv321.Abs.does]
    split
    · exact W
    · rename_i h1
      have hh := hasH_lt h1
      repeat (split; exact W)
      rename_i h2 h3
      rw [not_or, not_or, not_or, Bool.not_eq_false, Bool.not_eq_true, Bool.not_eq_true] at h3
      obtain ⟨c1, c2, c3, c4⟩ := h3
      have c3' : l.length = 5 := by omega
      obtain ⟨r1, r2, r3, r4, r5, r6, r7⟩ := W.hr h hh
      obtain ⟨s1, s2, s3, s4, s5⟩ := W.st _ r2
      have w5 := (W.wk _ r1).1
      have hwin : w.length ≤ (a.work (a.hire h).work).winds := by
        have h5 := rising_len (l := w) (m := 0) (n := (a.work (a.hire h).work).winds) c1 (fun x hx => ⟨Nat.zero_le _, ?_⟩) (Nat.zero_le _)
        · omega
        · have h6 := List.any_eq_false.mp c2 x hx
          have h7 : ¬ (a.work (a.hire h).work).winds ≤ x := fun z => h6 (decide_eq_true z)
          omega
      have hsent : ∀ j, j < 5 → at5 l j ≤ (at5 (a.set (a.hire h).set).strings j - at5 (a.set (a.hire h).set).gone j) + at5 (a.hire h).loose j := fun j hj => by
        have h6 := List.any_eq_false.mp c4 j (List.mem_range.mpr hj)
        have h7 : ¬ at5 (a.sent (a.hire h)) j < at5 l j := fun z => h6 (decide_eq_true z)
        unfold Kv321.Abs.sent at h7
        rw [at5_map5 hj] at h7
        omega
      have W1 := W.upH (z := { a.hire h with how := 2 }) hh (W.hr h hh) (fun z => by cases z) (W.sw h hh) fun v i => by
        have := W.ln v i
        rw [ctr_off (z := { a.hire h with how := 2 }) (by show (2 : Nat) ≠ 1; decide)]
        omega
      let k' : Set_ := { a.set (a.hire h).set with missing := w, gone := map5 (fun i => at5 (a.set (a.hire h).set).gone i + (at5 l i - at5 (map5 fun i => min (at5 l i) (at5 (a.hire h).loose i)) i)), marked := some h }
      have hk1 : ∀ j, j < 5 → at5 k'.gone j ≤ at5 (a.set (a.hire h).set).strings j := fun j hj => by
        have e : k'.gone = map5 (fun i => at5 (a.set (a.hire h).set).gone i + (at5 l i - at5 (map5 fun i => min (at5 l i) (at5 (a.hire h).loose i)) i)) := rfl
        rw [e, at5_map5 hj, at5_map5 hj]
        have q1 := s4 j hj
        have q2 := hsent j hj
        omega
      have W2 := W1.upS (s := (a.hire h).set) (z := k') r2 ⟨s1, s2, map5_len _, hk1, by
        show w.length ≤ (a.work (a.set (a.hire h).set).work).winds
        rw [W.sw h hh]
        exact hwin⟩ rfl
      let l' := map5 fun i => at5 (a.work (a.hire h).work).loose i - at5 (map5 fun i => min (at5 l i) (at5 (a.hire h).loose i)) i
      have hl1 : ∀ j, outSum (upH a h { a.hire h with how := 2 }) (a.hire h).work j ≤ at5 l' j := fun j => by
        have q1 := out_upH (a := a) (h := h) (w := (a.hire h).work) (i := j) (z := { a.hire h with how := 2 }) hh
        rw [ctr_off (z := { a.hire h with how := 2 }) (by show (2 : Nat) ≠ 1; decide)] at q1
        have q2 : ctr (a.hire h).work j (a.hire h) = at5 (a.hire h).loose j := by
          unfold ctr
          have : (a.hire h).how = 1 := by omega
          rw [this, beq_self_eq_true]
          rfl
        have q3 := W.ln (a.hire h).work j
        by_cases j5 : j < 5
        · have e : l' = map5 (fun i => at5 (a.work (a.hire h).work).loose i - at5 (map5 fun i => min (at5 l i) (at5 (a.hire h).loose i)) i) := rfl
          rw [e, at5_map5 j5, at5_map5 j5]
          omega
        · have : at5 (a.work (a.hire h).work).loose j = 0 := by
            unfold at5
            rw [List.getD_eq_getElem?_getD, List.getElem?_eq_none (by omega)]
            rfl
          omega
      have W3 := W2.upW (i := (a.hire h).work) (l := l') r1 (map5_len _) hl1
      refine W3.same ?_ ?_ ?_ rfl rfl (Nat.le_refl _)
      · exact mod_set r1
      · exact mod_set r2
      · exact mod_set hh
  | replace s =>
    simp only [Kv321.Abs.does]
    split
    · exact W
    · rename_i h1
      have hs := hasS_lt h1
      split
      · exact W
      · split
        · exact W
        · obtain ⟨s1, s2, s3, s4, s5⟩ := W.st s hs
          have W1 := W.upS (z := { a.set s with missing := [], gone := five }) hs ⟨s1, s2, rfl, fun j _ => by rw [at5_five]; omega, by show 0 ≤ _; omega⟩ rfl
          have e : a.sets.modify s (fun x => { x with missing := [], gone := five }) = (upS a s { a.set s with missing := [], gone := five }).sets := mod_set hs
          refine W1.same rfl ?_ rfl rfl rfl (Nat.le_refl _)
          exact e
  | rub s =>
    simp only [Kv321.Abs.does]
    split
    · exact W
    · rename_i h1
      have hs := hasS_lt h1
      split
      · exact W
      · split
        · exact W
        · rw [sets_up hs]
          exact W.upS hs (W.st s hs) rfl
  | longer h n =>
    simp only [Kv321.Abs.does]
    split
    · exact W
    · rename_i h1
      have hh := hasH_lt h1
      repeat (split; exact W)
      rename_i h2 h3 h4
      rw [set1_up hh]
      obtain ⟨r1, r2, r3, r4, r5, r6, r7⟩ := W.hr h hh
      refine W.upH hh ⟨r1, r2, r3, r4, r5, ?_, ?_⟩ (W.ou h hh) (W.sw h hh) fun w i => ?_
      · show 1 ≤ (a.hire h).days + n
        omega
      · show (a.hire h).from_ + ((a.hire h).days + n) ≤ 1000
        omega
      · have := W.ln w i
        have e : ctr w i { a.hire h with days := (a.hire h).days + n } = ctr w i (a.hire h) := rfl
        rw [e]
        omega
  | swap h s =>
    simp only [Kv321.Abs.does]
    split
    · exact W
    · rename_i h1
      rw [not_or] at h1
      have hh := hasH_lt h1.1
      have hs := hasS_lt h1.2
      repeat (split; exact W)
      rename_i h2 h3 h4
      rw [set1_up hh]
      obtain ⟨r1, r2, r3, r4, r5, r6, r7⟩ := W.hr h hh
      refine W.upH hh ⟨r1, hs, r3, map5_len _, r5, r6, r7⟩ (W.ou h hh) ?_ fun w i => ?_
      · rw [Bool.not_eq_false] at h4
        unfold Kv321.Abs.does_ at h4
        rw [Bool.and_eq_true] at h4
        exact beq_iff_eq.mp h4.1
      have := W.ln w i
      rw [ctr_off (z := { a.hire h with set := s, loose := a.lacks s (a.hire h).desks }) (by show (a.hire h).how ≠ 1; omega)]
      omega
  | days n =>
    simp only [Kv321.Abs.does]
    split
    · exact W
    · exact W.same rfl rfl rfl rfl rfl (by show a.today ≤ a.today + n; omega)
  | could w f n k => simp only [Kv321.Abs.does]; (repeat' split) <;> exact W
  | choices w f n k => simp only [Kv321.Abs.does]; (repeat' split) <;> exact W
  | slack h => simp only [Kv321.Abs.does]; (repeat' split) <;> exact W
  | most w => simp only [Kv321.Abs.does]; (repeat' split) <;> exact W
  | free w i d => simp only [Kv321.Abs.does]; (repeat' split) <;> exact W
  | lacks s k => simp only [Kv321.Abs.does]; (repeat' split) <;> exact W
  | plan s => simp only [Kv321.Abs.does]; (repeat' split) <;> exact W
  | due => exact W
  | lost s => simp only [Kv321.Abs.does]; (repeat' split) <;> exact W
  | torn => exact W
  | has s => simp only [Kv321.Abs.does]; (repeat' split) <;> exact W
  | bill h => simp only [Kv321.Abs.does]; (repeat' split) <;> exact W
  | late h => simp only [Kv321.Abs.does]; (repeat' split) <;> exact W
  | shelf => exact W
  | look h => simp only [Kv321.Abs.does]; (repeat' split) <;> exact W
  | marks s => simp only [Kv321.Abs.does]; (repeat' split) <;> exact W
  | sums => exact W
  | state => exact W
end Pl

/-! ### deeds that change one thing -/
namespace Pl
open PySem PySem.Spec PyProof.Rows L2
open Kv321 (Abs Hire Set_ at5 map5 five okDesks okDays rising)
section
variable {K : PySem.W.Frag} {mg : Str → Option Value} {G H H' : Hp} {A A0 D A' D' : Tag → Addr} {b b' : Bool} {a a0 a' : Abs} {p : Addr}
variable {σ : L2.St} {te ta tb tc td tf tv to : TE} {d : Dsc} {v : V} {DD : Ends} {ts tr tw : TS} {x dx C : Addr} {fs : List (Str × V)} {f : Str} {vs : List V} {Q : VK} {E : XK} {P : Post} {c : Kv321.Call}
theorem Rep.worksF (T : Txt K mg) (R : Rep K H A D b a) : Fld K H (A .lib) "works" (.ref (A .works)) := ⟨_, _, _, R.at_ .lib trivial, T.c_Library, T.n_Library_works, lF_works _ _ _ _ _⟩
theorem Rep.kitsF (T : Txt K mg) (R : Rep K H A D b a) : Fld K H (A .lib) "kits" (.ref (A .kits)) := ⟨_, _, _, R.at_ .lib trivial, T.c_Library, T.n_Library_kits, lF_kits _ _ _ _ _⟩
theorem Rep.hirsF (T : Txt K mg) (R : Rep K H A D b a) : Fld K H (A .lib) "hirings" (.ref (A .hirs)) := ⟨_, _, _, R.at_ .lib trivial, T.c_Library, T.n_Library_hirings, lF_hirings _ _ _ _ _⟩
theorem Rep.looseF (T : Txt K mg) (R : Rep K H A D b a) {i : Nat} (h : i < a.works.length) : Fld K H (A (.work i)) "loose" (.ref (A (.loose i))) := ⟨_, _, _, R.at_ (.work i) h, T.c_Work, T.n_Work_loose, wF_loose _ _⟩
theorem Rep.goneF (T : Txt K mg) (R : Rep K H A D b a) {i : Nat} (h : i < a.sets.length) : Fld K H (A (.kit i)) "gone" (.ref (A (.gone i))) := ⟨_, _, _, R.at_ (.kit i) h, T.c_Kit, T.n_Kit_gone, kF_gone _ _ _ _⟩
theorem cps_hir {i : Nat} {z : Hire} (T : Txt K mg) (L : Lv K G A0 a0 H A D b a) (hi : i < a.hires.length) (hn : NoAttr K (He.ga K "Hiring") f) (hv : Ev tv σ H (dV v)) (ho : Ev to σ H (dV (.ref (A (.hir i))))) (e : ∀ d p, putF f v (hF (a.hire i) d p) = hF z d p)
    (ds : z.desks = (a.hire i).desks) (lo : z.loose = (a.hire i).loose) (k : ∀ H1, Lv K G A0 a0 H1 A D b (upH a i z) → Exx (A (.hir i)) H H1 → tw DD σ H1) : tSeq (sFld K to tv f) tw DD σ H :=
  cps_fld (L.R.at_ (.hir i) hi) T.c_Hiring hn (lt1k rfl) hv ho fun w H1 e1 h1 => by
    have h1' : w = v := h1
    rw [h1', e]
    exact k _ ((L.up e1).hir hi ds lo) ((Exx.refl.ex e1).upd)
theorem cps_put {i : Nat} {z : Hire} {l : List Nat} (T : Txt K mg) (L : Lv K G A0 a0 H A D b a) (hi : i < a.hires.length) (hn : NoAttr K (He.ga K "Hiring") f) (hv : Ev tv σ H (dN (vns l))) (ho : Ev to σ H (dV (.ref (A (.hir i))))) (e : ∀ d p q, putF f (.ref q) (hF (a.hire i) d p) = hF z d q)
    (ds : z.desks = (a.hire i).desks) (lo : z.loose = l) (k : ∀ q H1, Lv K G A0 a0 H1 (updT A (.put i) q) D b (upH a i z) → Exx (A (.hir i)) H H1 → tw DD σ H1) : tSeq (sFld K to tv f) tw DD σ H :=
  cps_fld (L.R.at_ (.hir i) hi) T.c_Hiring hn (lt1k rfl) hv ho fun w H1 e1 ⟨q, h1, h2, h3⟩ => by
    rw [h1, e]
    exact k q _ ((L.up e1).put hi ds (L.nown h2) (L.S.dom _ h2) (by rw [lo]; exact h3)) ((Exx.refl.ex e1).upd)
theorem cps_kit {i : Nat} {z : Set_} (T : Txt K mg) (L : Lv K G A0 a0 H A D b a) (hi : i < a.sets.length) (hn : NoAttr K (He.ga K "Kit") f) (hv : Ev tv σ H (dV v)) (ho : Ev to σ H (dV (.ref (A (.kit i))))) (e : ∀ s m g, putF f v (kF (a.set i) s m g) = kF z s m g)
    (e1 : z.strings = (a.set i).strings) (e2 : z.missing = (a.set i).missing) (e3 : z.gone = (a.set i).gone) (k : ∀ H1, Lv K G A0 a0 H1 A D b (upS a i z) → Exx (A (.kit i)) H H1 → tw DD σ H1) : tSeq (sFld K to tv f) tw DD σ H :=
  cps_fld (L.R.at_ (.kit i) hi) T.c_Kit hn (lt1k rfl) hv ho fun w H1 x1 h1 => by
    have h1' : w = v := h1
    rw [h1', e]
    exact k _ ((L.up x1).kit hi e1 e2 e3) ((Exx.refl.ex x1).upd)
theorem cps_miss {i : Nat} {z : Set_} {l : List Nat} (T : Txt K mg) (L : Lv K G A0 a0 H A D b a) (hi : i < a.sets.length) (hn : NoAttr K (He.ga K "Kit") f) (hv : Ev tv σ H (dN (vns l))) (ho : Ev to σ H (dV (.ref (A (.kit i))))) (e : ∀ s m g q, putF f (.ref q) (kF (a.set i) s m g) = kF z s q g)
    (e1 : z.strings = (a.set i).strings) (e2 : z.missing = l) (e3 : z.gone = (a.set i).gone) (k : ∀ q H1, Lv K G A0 a0 H1 (updT A (.miss i) q) D b (upS a i z) → Exx (A (.kit i)) H H1 → tw DD σ H1) : tSeq (sFld K to tv f) tw DD σ H :=
  cps_fld (L.R.at_ (.kit i) hi) T.c_Kit hn (lt1k rfl) hv ho fun w H1 x1 ⟨q, h1, h2, h3⟩ => by
    rw [h1, e]
    exact k q _ ((L.up x1).miss hi e1 e3 (L.nown h2) (L.S.dom _ h2) (by rw [e2]; exact h3)) ((Exx.refl.ex x1).upd)
theorem cps_gone {i : Nat} {z : Set_} {l : List Nat} (T : Txt K mg) (L : Lv K G A0 a0 H A D b a) (hi : i < a.sets.length) (hn : NoAttr K (He.ga K "Kit") f) (hv : Ev tv σ H (dN (vns l))) (ho : Ev to σ H (dV (.ref (A (.kit i))))) (e : ∀ s m g q, putF f (.ref q) (kF (a.set i) s m g) = kF z s m q)
    (e1 : z.strings = (a.set i).strings) (e2 : z.missing = (a.set i).missing) (e3 : z.gone = l) (k : ∀ q H1, Lv K G A0 a0 H1 (updT A (.gone i) q) D b (upS a i z) → Exx (A (.kit i)) H H1 → tw DD σ H1) : tSeq (sFld K to tv f) tw DD σ H :=
  cps_fld (L.R.at_ (.kit i) hi) T.c_Kit hn (lt1k rfl) hv ho fun w H1 x1 ⟨q, h1, h2, h3⟩ => by
    rw [h1, e]
    exact k q _ ((L.up x1).gone hi e1 e2 (L.nown h2) (L.S.dom _ h2) (by rw [e3]; exact h3)) ((Exx.refl.ex x1).upd)
theorem cps_libAug {i j : Int} (T : Txt K mg) (L : Lv K G A0 a0 H A D b a) (hn : NoAttr K (He.ga K "Library") f) (hf : (lF b a (A .works) (A .kits) (A .hirs)).lookup f = some (.int i)) (hv : Ev tv σ H (dV (.int j))) (ho : Ev to σ H (dV (.ref (A .lib))))
    (e : putF f (.int (i + j)) (lF b a (A .works) (A .kits) (A .hirs)) = lF b a' (A .works) (A .kits) (A .hirs)) (e1 : a'.works = a.works) (e2 : a'.sets = a.sets) (e3 : a'.hires = a.hires) (k : ∀ H1, Lv K G A0 a0 H1 A D b a' → Exx (A .lib) H H1 → tw DD σ H1) : tSeq (sFldAug K to tv rAdd f) tw DD σ H :=
  cps_fldAug (L.R.at_ .lib trivial) T.c_Library hn (lt1k rfl) hf hv ho fun H1 x1 => by
    rw [e]
    exact k _ ((L.up x1).lib e1 e2 e3) ((Exx.refl.ex x1).upd)
theorem s_appD {l : Addr} {xs : List V} (hl : H l = some (.lst xs)) (ha : Ev ta σ H (dV (.ref l))) (h : Ev te σ H d) (hz : xs.length < 100000) (k : ∀ v H1, Ex H H1 → d.is H v H1 → tw DD σ (upd H1 l (.lst (xs ++ [v])))) : tSeq (tDrop (tBM K "list" rAppend ta (tCons te tNil))) tw DD σ H :=
  ha H (Ex.refl H) _ fun w H1 e1 hw => by
    subst hw
    exact ⟨Or.inl ⟨rfl, xs, SqL.of (e1 _ _ hl)⟩, h H1 e1 _ fun v H2 e2 hv => ⟨l, xs, v, rfl, rfl, (e1.trans e2) _ _ hl, Evl.sz_lt hz, k v H2 (e1.trans e2) (d.dn e1 hv)⟩⟩
theorem rd_cancel (T : Txt K mg) (hQ : sp_cancel K vs H Q E) : Fn (t_cancel K) N_cancel vs H Q := fn_deed hQ fun A D b a c pn pl ps ns ls e R W Qa hm => by
  obtain ⟨h, rfl, rfl, rfl⟩ := hm
  subst e
  refine go_ge (ev_n0 (ev_var rfl) Qa.hn) (ev_hirings_len T R (ev_var rfl)) (fun hb => go_no R (no2 hb) rfl (el_lst1 ev_c)) fun hb => ?_
  have hz := R.hir hb
  refine go_asg (ev_hirings_at T R (ev_var rfl) (ev_n0 (ev_var rfl) Qa.hn) hb) ?_
  refine go_ne (m := 0) (ev_fld (ev_var rfl) (hz.how T)) ev_c (fun hh => go_no R ((yes2 hb).trans (if_pos hh)) rfl (el_lst1 ev_c)) fun hh => ?_
  intro H1 e1 DD q
  refine cps_hir (i := h) (z := { a.hire h with how := 3 }) T ((Lv.new (R.up e1))) hb T.n_Hiring_how ev_c (ev_var rfl) (fun d p => pt_Hiring_how _ _ _ _ _ _ _ _ _ _) rfl rfl fun H2 L2 _ => ?_
  exact ret_do L2 q (((yes2 hb).trans (if_neg (by omega))).trans (by rw [set1_up hb])) (Bool.or_false b) (el_lst1 ev_c)
theorem send_does {h : Nat} (hb : h < a.hires.length) (h0 : ¬ (a.hire h).how ≠ 0) : a.does (.send h) = if sentWhy a h ≠ 0 then (a, Kv321.say (sentWhy a h)) else (a.set1 h (fun y => { y with how := 1 }), ⟨0, a.sent (a.hire h)⟩) := by
  refine ((yes2 hb).trans (if_neg h0)).trans ?_
  by_cases c1 : a.today < (a.hire h).from_
  · have hs : sentWhy a h = -13 := if_pos c1
    rw [if_pos c1, hs, if_pos (by decide)]
  rw [if_neg c1]
  by_cases c2 : a.out (a.hire h).set = true
  · have hs : sentWhy a h = -17 := (if_neg c1).trans (if_pos c2)
    rw [if_pos c2, hs, if_pos (by decide)]
  rw [if_neg c2]
  by_cases c3 : (a.set (a.hire h).set).missing ≠ []
  · have hs : sentWhy a h = -12 := ((if_neg c1).trans (if_neg c2)).trans (if_pos c3)
    rw [if_pos c3, hs, if_pos (by decide)]
  rw [if_neg c3]
  by_cases c4 : (a.hire h).clean = true ∧ (a.set (a.hire h).set).marked.isSome = true
  · have hs : sentWhy a h = -19 := (((if_neg c1).trans (if_neg c2)).trans (if_neg c3)).trans (if_pos c4)
    rw [if_pos c4, hs, if_pos (by decide)]
  rw [if_neg c4]
  by_cases c5 : a.short h = true
  · have hs : sentWhy a h = -33 := ((((if_neg c1).trans (if_neg c2)).trans (if_neg c3)).trans (if_neg c4)).trans (if_pos c5)
    rw [if_pos c5, hs, if_pos (by decide)]
  · have hs : sentWhy a h = 0 := ((((if_neg c1).trans (if_neg c2)).trans (if_neg c3)).trans (if_neg c4)).trans (if_neg c5)
    rw [if_neg c5, hs, if_neg (by decide)]
theorem rd_send (T : Txt K mg) (hQ : sp_send K vs H Q E) : Fn (t_send K) N_send vs H Q := fn_deed hQ fun A D b a c pn pl ps ns ls e R W Qa hm => by
  obtain ⟨h, rfl, rfl, rfl⟩ := hm
  subst e
  refine go_asg (ev_n0 (ev_var rfl) Qa.hn) ?_
  refine go_ge (ev_var rfl) (ev_hirings_len T R (ev_var rfl)) (fun hb => go_no R (no2 hb) rfl (el_lst1 ev_c)) fun hb => ?_
  have hz := R.hir hb
  obtain ⟨r1, r2, r3, r4, r5, r6, r7⟩ := W.hr h hb
  refine go_asg (ev_hirings_at T R (ev_var rfl) (ev_var rfl) hb) ?_
  refine go_ne (m := 0) (ev_fld (ev_var rfl) (hz.how T)) ev_c (fun hh => go_no R ((yes2 hb).trans (if_pos hh)) rfl (el_lst1 ev_c)) fun hh => ?_
  refine go_asg (ca_why_not_sent R W hb (ev_var rfl) (ev_var rfl)) ?_
  have hsp : a.does (.send h) = if sentWhy a h ≠ 0 then (a, Kv321.say (sentWhy a h)) else (upH a h { a.hire h with how := 1 }, ⟨0, a.sent (a.hire h)⟩) := by
    rw [← set1_up (f := fun y => { y with how := 1 }) hb]
    exact send_does hb (by omega)
  refine go_if (et_test (ev_ne (ev_var rfl) ev_c)) (fun hb2 => ?_) fun hb2 => ?_
  · rw [Bool.not_eq_true'] at hb2
    exact go_no R (hsp.trans (if_pos (of_decide_eq_false hb2))) rfl (el_lst1 (ev_var rfl))
  · rw [Bool.not_eq_false'] at hb2
    have h0 := of_decide_eq_true hb2
    have e2 : a.does (.send h) = (upH a h { a.hire h with how := 1 }, ⟨0, a.sent (a.hire h)⟩) := hsp.trans (if_neg (by rw [h0]; decide))
    have W2 := Wf_does W (.send h)
    rw [e2] at W2
    intro H1 e1 DD q
    refine cps_hir (i := h) (z := { a.hire h with how := 1 }) T ((Lv.new (R.up e1))) hb T.n_Hiring_how ev_c (ev_var rfl) (fun d p => pt_Hiring_how _ _ _ _ _ _ _ _ _ _) rfl rfl fun H2 L2 _ => ?_
    have hb' : h < (upH a h { a.hire h with how := 1 }).hires.length := by
      show h < (a.hires.set h _).length
      rw [List.length_set]
      exact hb
    have hz2 := L2.R.hir hb'
    rw [upH_hire hb, if_pos rfl] at hz2
    refine ret_do L2 q e2 (Bool.or_false b) (Ev.isN (el_cat (el_lst1 ev_c).L (ca_sent_of L2.R W2 hz2 r2 r4 (ev_var rfl) (ev_var rfl)).L ?_) rfl)
    rw [vns_len]
    show 1 + (map5 _).length ≤ _
    rw [map5_len]
    decide
theorem rd_rub (T : Txt K mg) (hQ : sp_rub K vs H Q E) : Fn (t_rub K) N_rub vs H Q := fn_deed hQ fun A D b a c pn pl ps ns ls e R W Qa hm => by
  obtain ⟨s, rfl, rfl, rfl⟩ := hm
  subst e
  refine go_asg (ev_n0 (ev_var rfl) Qa.hn) ?_
  refine go_ge (ev_var rfl) (ev_kits_len T R (ev_var rfl)) (fun hb => go_no R (no2 hb) rfl (el_lst1 ev_c)) fun hb => ?_
  refine go_if (et_B (ca_is_out R W (ev_var rfl) (ev_var rfl))) (fun ho => go_no R ((yes2 hb).trans (if_pos ho)) rfl (el_lst1 ev_c)) fun ho => ?_
  have hk := R.kit hb
  refine go_asg (ev_kits_at T R (ev_var rfl) (ev_var rfl) hb) ?_
  have h2 : a.does (.rub s) = match (a.set s).marked with
    | none => (a, Kv321.say (-6))
    | some h => ({ a with sets := a.sets.modify s fun x => { x with marked := none } }, Kv321.say (h : Nat)) := (yes2 hb).trans (if_neg (by rw [ho]; decide))
  cases hmk : (a.set s).marked with
  | none =>
    rw [hmk] at h2
    refine go_if (b := true) (EvT.is (et_test (ev_eq (ev_fld (ev_var rfl) (hk.marked T)) ev_c)) (by rw [hmk]; rfl)) (fun _ => go_no R h2 rfl (el_lst1 ev_c)) fun z => by cases z
  | some h =>
    rw [hmk] at h2
    refine go_if (b := false) (EvT.is (et_test (ev_eq (ev_fld (ev_var rfl) (hk.marked T)) ev_c)) ?_) (fun z => by cases z) fun _ => ?_
    · rw [hmk]
      exact decide_eq_false (by show ¬ (h : Int) + 1 = 0; omega)
    refine go_asg (v := .int (h : Nat)) ((ev_I (ev_fld (ev_var rfl) (hk.marked T)) ev_c).is ?_) ?_
    · rw [hmk]
      exact congrArg V.int (by show (h : Int) + 1 - 1 = h; omega)
    intro H1 e1 DD q
    refine cps_kit (i := s) (z := { a.set s with marked := none }) T (Lv.new (R.up e1)) hb T.n_Kit_marked ev_c (ev_var rfl) (fun s m g => pt_Kit_marked _ _ _ _ _ _) rfl rfl rfl fun H2 L2 _ => ?_
    exact ret_do L2 q (h2.trans (by rw [sets_up hb])) (Bool.or_false b) (el_lst1 (ev_var rfl))
theorem rd_longer (T : Txt K mg) (hQ : sp_longer K vs H Q E) : Fn (t_longer K) N_longer vs H Q := fn_deed hQ fun A D b a c pn pl ps ns ls e R W Qa hm => by
  obtain ⟨h, n, rfl, rfl, rfl⟩ := hm
  subst e
  refine go_unpL (is := [3, 4]) ((ev_var rfl).asL Qa.hn) rfl rfl ?_
  refine go_ge (n := h) (ev_var rfl) (ev_hirings_len T R (ev_var rfl)) (fun hb => go_no R (no2 hb) rfl (el_lst1 ev_c)) fun hb => ?_
  have hz := R.hir hb
  obtain ⟨r1, r2, r3, r4, r5, r6, r7⟩ := W.hr h hb
  have ht := W.tn
  refine go_asg (ev_hirings_at (i := h) T R (ev_var rfl) (ev_var rfl) hb) ?_
  refine go_if (et_not (et_B (ca_is_on hz (ev_var rfl)))) (fun hd => go_no R ((yes2 hb).trans (if_pos ?_)) rfl (el_lst1 ev_c)) fun hd => ?_
  · rw [Bool.not_eq_true'] at hd
    have := of_decide_eq_false hd
    omega
  rw [Bool.not_eq_false'] at hd
  have hon := of_decide_eq_true hd
  refine go_asg (v := .int (((a.hire h).days + n : Nat) : Int)) ((ev_I (j := (n : Int)) (ev_fld (ev_var rfl) (hz.spell T)) (ev_var rfl)).is (congrArg V.int (by omega))) ?_
  refine go_if (et_or (et_test (ev_eq (i := (n : Int)) (ev_var rfl) ev_c)) fun _ => et_or (et_test (ev_I (i := (((a.hire h).days + n : Nat) : Int)) (ev_var rfl) ev_c)) fun _ => et_test (ev_I (ev_I (j := (((a.hire h).days + n : Nat) : Int)) (ev_fld (ev_var rfl) (hz.first T)) (ev_var rfl)) ev_c)) (fun hd => go_no R (((yes2 hb).trans (if_neg (by omega))).trans (if_pos ?_)) rfl (el_lst1 ev_c)) fun hd => ?_
  · rw [Bool.or_eq_true, Bool.or_eq_true] at hd
    rcases hd with z | z | z
    · have := of_decide_eq_true z
      omega
    · have := of_decide_eq_true z
      omega
    · have := of_decide_eq_true z
      omega
  rw [Bool.or_eq_false_iff, Bool.or_eq_false_iff] at hd
  have d1 := of_decide_eq_false hd.1
  have d2 := of_decide_eq_false hd.2.1
  have d3 := of_decide_eq_false hd.2.2
  have h3 : a.does (.longer h n) = if a.longerOk h n = false then (a, Kv321.say (-33)) else (a.set1 h (fun z => { z with days := z.days + n }), Kv321.say ((a.hire h).days + n : Nat)) := ((yes2 hb).trans (if_neg (by omega))).trans (if_neg (by omega))
  rw [longer_way W hb] at h3
  refine go_if (et_B (ca_is_any_in_way (n := (a.hire h).days + n) R W hb (by omega) (ev_var rfl) (ev_var rfl) (ev_var rfl))) (fun hd => go_no R (h3.trans (if_pos (by rw [hd]; rfl))) rfl (el_lst1 ev_c)) fun hd => ?_
  intro H1 e1 DD q
  refine cps_hir (i := h) (z := { a.hire h with days := (a.hire h).days + n }) T ((Lv.new (R.up e1))) hb T.n_Hiring_spell (ev_var rfl) (ev_var rfl) (fun d p => pt_Hiring_spell _ _ _ _ _ _ _ _ _ _) rfl rfl fun H2 L2 _ => ?_
  exact ret_do L2 q ((h3.trans (if_neg (by rw [hd]; decide))).trans (by rw [set1_up hb])) (Bool.or_false b) (el_lst1 (ev_var rfl))
theorem rd_go_on (T : Txt K mg) (hQ : sp_go_on K vs H Q E) : Fn (t_go_on K) N_go_on vs H Q := fn_deed hQ fun A D b a c pn pl ps ns ls e R W Qa hm => by
  obtain ⟨n, rfl, rfl, rfl⟩ := hm
  subst e
  refine go_if (et_not (et_test (ev_chain ev_c (ev_n0 (ev_var rfl) Qa.hn) ev_c))) (fun hd => go_no R (if_pos ?_) rfl (el_lst1 ev_c)) fun hd => ?_
  · rw [Bool.not_eq_true', Bool.and_eq_false_iff] at hd
    rcases hd with z | z
    · have := of_decide_eq_false z
      omega
    · have := of_decide_eq_false z
      omega
  rw [Bool.not_eq_false', Bool.and_eq_true] at hd
  have d1 := of_decide_eq_true hd.1
  have d2 := of_decide_eq_true hd.2
  intro H1 e1 DD q
  refine cps_libAug (a' := { a with today := a.today + n }) T (Lv.new (R.up e1)) T.n_Library_today (lF_today _ _ _ _ _) (ev_n0 (ev_var rfl) (e1 _ _ Qa.hn)) (ev_var rfl) (pt_Library_today _ _ _ _ _ _ _ _ _ _) rfl rfl rfl fun H2 L2 _ => ?_
  exact ret_do L2 q (if_neg (by omega)) (Bool.or_false b) (el_lst1 (ev_fld (ev_var rfl) (L2.R.today T)))
end
end Pl

/-! ### deeds that make and change more -/
namespace Pl
open PySem PySem.Spec PyProof.Rows L2
open Kv321 (Abs Hire Set_ at5 map5 five okDesks okDays rising)
section
variable {K : PySem.W.Frag} {mg : Str → Option Value} {G H H' : Hp} {A A0 D A' D' : Tag → Addr} {b b' : Bool} {a a0 a' : Abs} {p : Addr}
variable {σ : L2.St} {te ta tb tc td tf tv to : TE} {d : Dsc} {v : V} {DD : Ends} {ts tr tw : TS} {x dx C : Addr} {fs : List (Str × V)} {f : Str} {vs : List V} {Q : VK} {E : XK} {P : Post} {c : Kv321.Call}
theorem cps_seq (h : ts { DD with nx := tw DD } σ H) : tSeq ts tw DD σ H := h
theorem rd_begin (T : Txt K mg) (hQ : sp_begin K vs H Q E) : Fn (t_begin K) N_begin vs H Q := fn_deed hQ fun A D b a c pn pl ps ns ls e R W Qa hm => by
  obtain ⟨t, f, rfl, rfl, rfl⟩ := hm
  subst e
  refine go_unpL (is := [3, 4]) ((ev_var rfl).asL Qa.hn) rfl rfl ?_
  refine go_if (et_or (et_test (ev_I (i := (t : Int)) (ev_var rfl) ev_c)) fun _ => et_test (ev_I (i := (f : Int)) (ev_var rfl) ev_c)) (fun hd => ?_) fun hd => ?_
  · have hc : 14 < t ∨ 1000 < f := by
      rcases Bool.or_eq_true_iff.mp hd with z | z
      · have := of_decide_eq_true z
        omega
      · have := of_decide_eq_true z
        omega
    refine go_no R (if_pos hc) ?_ (el_lst1 ev_c)
    show (decide (t ≤ 14) && decide (f ≤ 1000)) = false
    rcases hc with z | z
    · rw [decide_eq_false (by omega), Bool.false_and]
    · rw [decide_eq_false (show ¬ f ≤ 1000 by omega), Bool.and_false]
  rw [Bool.or_eq_false_iff] at hd
  have d1 := of_decide_eq_false hd.1
  have d2 := of_decide_eq_false hd.2
  intro H1 e1 DD q
  have R1 := R.up e1
  have hx : H1 (A .lib) = some (.ins (He.ga K "Library") (D .lib) (lF b a (A .works) (A .kits) (A .hirs))) := R1.at_ .lib trivial
  refine cps_st (Stp.refl (a := a)) hx T.c_Library T.n_Library_is_begun (lt1k rfl) ev_c (ev_var rfl) (pt_Library_is_begun _ _ _ _ _ _ _ _ _ _) fun H2 S2 Y2 x2 => ?_
  refine cps_st S2 x2 T.c_Library T.n_Library_turn (lt1k rfl) (ev_var (v := .int (t : Nat)) rfl) (ev_var rfl) (pt_Library_turn _ _ _ _ _ _ _ _ _ _) fun H3 S3 Y3 x3 => ?_
  refine cps_st S3 x3 T.c_Library T.n_Library_fine (lt1k rfl) (ev_var (v := .int (f : Nat)) rfl) (ev_var rfl) (pt_Library_fine _ _ _ _ _ _ _ _ _ _) fun H4 S4 Y4 x4 => ?_
  refine cps_st S4 x4 T.c_Library T.n_Library_today (lt1k rfl) ev_c (ev_var rfl) (pt_Library_today _ _ _ _ _ _ _ _ _ _) fun H5 S5 Y5 x5 => ?_
  refine cps_stL S5 x5 T.c_Library T.n_Library_works (lt1k rfl) el_nil (ev_var rfl) (fun l => pt_Library_works (.ref l) _ _ _ _ _ _ _ _ _) fun w H6 S6 Y6 x6 wf wg wn wh => ?_
  refine cps_stL S6 x6 T.c_Library T.n_Library_kits (lt1k rfl) el_nil (ev_var rfl) (fun l => pt_Library_kits (.ref l) _ _ _ _ _ _ _ _ _) fun k H7 S7 Y7 x7 kf kg kn kh => ?_
  refine cps_stL S7 x7 T.c_Library T.n_Library_hirings (lt1k rfl) el_nil (ev_var rfl) (fun l => pt_Library_hirings (.ref l) _ _ _ _ _ _ _ _ _) fun h H8 S8 Y8 x8 hf hg hn hh => ?_
  refine cps_st S8 x8 T.c_Library T.n_Library_paid (lt1k rfl) ev_c (ev_var rfl) (pt_Library_paid _ _ _ _ _ _ _ _ _ _) fun H9 S9 Y9 x9 => ?_
  refine cps_st S9 x9 T.c_Library T.n_Library_replaced (lt1k rfl) ev_c (ev_var rfl) (pt_Library_replaced _ _ _ _ _ _ _ _ _ _) fun H10 S10 Y10 x10 => ?_
  have w7 := Y7 _ _ wn wh
  have w8 := Y8 _ _ wn w7
  have w10 := Y10 _ _ wn (Y9 _ _ wn w8)
  have k8 := Y8 _ _ kn kh
  have k10 := Y10 _ _ kn (Y9 _ _ kn k8)
  have h10 := Y10 _ _ hn (Y9 _ _ hn hh)
  have Rn := rep_none (a := Kv321.begun t f) (b := true) rfl rfl rfl x10 w10 k10 h10 ⟨ne_of_none wh kf, ne_of_none w7 hf, ne_of_none kh hf⟩
  have L : Lv K H1 A a H10 (libT (A .lib) w k h) (fun _ => D .lib) true (Kv321.begun t f) := ⟨Rn, ⟨S10.keep, fun q ⟨u, hu, eu⟩ => by
    cases u with
    | lib => exact Or.inl ⟨.lib, trivial, eu⟩
    | works => exact Or.inr (by rw [← eu]; exact wg)
    | kits => exact Or.inr (by rw [← eu]; exact kg)
    | hirs => exact Or.inr (by rw [← eu]; exact hg)
    | _ => exact (Nat.not_lt_zero _ hu).elim, S10.dom⟩, rfl⟩
  refine ret_do L q (if_neg (by omega)) ?_ (el_lst1 ev_c)
  show (b || (decide (t ≤ 14) && decide (f ≤ 1000))) = true
  rw [decide_eq_true (show t ≤ 14 by omega), decide_eq_true (show f ≤ 1000 by omega)]
  exact Bool.or_true b
theorem rd_put_work (T : Txt K mg) (hQ : sp_put_work K vs H Q E) : Fn (t_put_work K) N_put_work vs H Q := fn_deed hQ fun A D b a c pn pl ps ns ls e R W Qa hm => by
  obtain ⟨n, f, m, p, rfl, rfl, rfl⟩ := hm
  subst e
  have hW := W.nW
  refine go_unpL (is := [3, 4, 5, 6]) ((ev_var rfl).asL Qa.hn) rfl rfl ?_
  refine go_if (et_or (et_test (ev_I (i := (n : Int)) (ev_var rfl) ev_c)) fun _ => et_or (et_test (ev_I (i := (f : Int)) (ev_var rfl) ev_c)) fun _ => et_or (et_test (ev_I (i := (m : Int)) (ev_var rfl) ev_c)) fun _ => et_test (ev_I (i := (p : Int)) (ev_var rfl) ev_c)) (fun hd => go_no R (if_pos ?_) rfl (el_lst1 ev_c)) fun hd => ?_
  · rw [Bool.or_eq_true, Bool.or_eq_true, Bool.or_eq_true] at hd
    rcases hd with z | z | z | z
    · have := of_decide_eq_true z
      omega
    · have := of_decide_eq_true z
      omega
    · have := of_decide_eq_true z
      omega
    · have := of_decide_eq_true z
      omega
  rw [Bool.or_eq_false_iff, Bool.or_eq_false_iff, Bool.or_eq_false_iff] at hd
  have d1 := of_decide_eq_false hd.1
  have d2 := of_decide_eq_false hd.2.1
  have d3 := of_decide_eq_false hd.2.2.1
  have d4 := of_decide_eq_false hd.2.2.2
  refine go_eq (m := 8) (ev_works_len T R (ev_var rfl)) ev_c (fun h8 => go_no R ((if_neg (by omega)).trans (if_pos (by omega))) rfl (el_lst1 ev_c)) fun h8 => ?_
  intro H1 e1 DD q
  have R1 := R.up e1
  refine s_appD (R1.at_ .works trivial) (ev_fld (ev_var rfl) (R1.worksF T)) (ev_make_Work (n := n) (f := f) (m := m) (p := p) (ev_var rfl) (ev_var rfl) (ev_var rfl) (ev_var rfl)) (by rw [refs_len]; omega) fun v H2 e2 ⟨x, dx, l, h1, h2, h3, h4, h5⟩ => ?_
  subst h1
  have L0 := Lv.new R1
  obtain ⟨A', D', L, hA, ax⟩ := (L0.up e2).growWork h4 h5 (L0.nown h2) h2 (L0.nown h3) h3
  refine ret_do L q ((if_neg (by omega)).trans (if_neg (by omega))) (Bool.or_false b) (el_lst1 ((ev_I (ev_works_len T L.R ((ev_var rfl).is (congrArg V.ref L.l.symm))) ev_c).is (w := .int (a.works.length : Nat)) (congrArg V.int ?_)))
  show (((a.works ++ [_]).length : Nat) : Int) - 1 = _
  rw [List.length_append]
  show ((a.works.length + 1 : Nat) : Int) - 1 = _
  omega
theorem rd_put_kit (T : Txt K mg) (hQ : sp_put_kit K vs H Q E) : Fn (t_put_kit K) N_put_kit vs H Q := fn_deed hQ fun A D b a c pn pl ps ns ls e R W Qa hm => by
  obtain ⟨w, l, rfl, rfl, rfl⟩ := hm
  subst e
  obtain ⟨p, rfl, hp, np, _, hl⟩ := Qa.one
  have hW := W.nS
  refine go_asg (ev_n0 (ev_var rfl) Qa.hn) ?_
  refine go_ge (ev_var rfl) (ev_works_len T R (ev_var rfl)) (fun hb => go_no R (no2 hb) rfl (el_lst1 ev_c)) fun hb => ?_
  refine go_if (et_not (et_B (ca_are_parts hp (ev_l0 (ev_var rfl) hl)))) (fun hd => go_no R ((yes2 hb).trans (if_pos (by rw [Bool.not_eq_true'] at hd; exact hd))) rfl (el_lst1 ev_c)) fun hd => ?_
  rw [Bool.not_eq_false'] at hd
  have hd' : ¬ okDesks l = false := by rw [hd]; decide
  refine go_eq (m := 12) (ev_kits_len T R (ev_var rfl)) ev_c (fun h8 => go_no R (((yes2 hb).trans (if_neg hd')).trans (if_pos (by omega))) rfl (el_lst1 ev_c)) fun h8 => ?_
  intro H1 e1 DD q
  have R1 := R.up e1
  refine s_appD (R1.at_ .kits trivial) (ev_fld (ev_var rfl) (R1.kitsF T)) (ev_make_Kit (w := w) (l := l) (ev_var rfl) (el_listD ((ev_l0 (ev_var rfl) (e1 _ _ hl)).asL (e1 _ _ hp)))) (by rw [refs_len]; omega) fun v H2 e2 ⟨x, dx, s, m, g, h1, ⟨h2, h3, h4, h5⟩, ⟨n1, n2, n3⟩, g1, g2, g3, g4⟩ => ?_
  subst h1
  have L0 := Lv.new R1
  obtain ⟨A', D', L, hA, ax⟩ := (L0.up e2).growKit g1 g2 g3 g4 (L0.nown h2) h2 (L0.nown h3) h3 (L0.nown h4) h4 (L0.nown h5) h5 n1 n2 n3
  refine ret_do L q (((yes2 hb).trans (if_neg hd')).trans (if_neg (by omega))) (Bool.or_false b) (el_lst1 ((ev_I (ev_kits_len T L.R ((ev_var rfl).is (congrArg V.ref L.l.symm))) ev_c).is (w := .int (a.sets.length : Nat)) (congrArg V.int ?_)))
  show (((a.sets ++ [_]).length : Nat) : Int) - 1 = _
  rw [List.length_append]
  show ((a.sets.length + 1 : Nat) : Int) - 1 = _
  omega
theorem rd_put_loose (T : Txt K mg) (hQ : sp_put_loose K vs H Q E) : Fn (t_put_loose K) N_put_loose vs H Q := fn_deed hQ fun A D b a c pn pl ps ns ls e R W Qa hm => by
  obtain ⟨w, i, n, rfl, rfl, rfl⟩ := hm
  subst e
  refine go_unpL (is := [3, 4, 5]) ((ev_var rfl).asL Qa.hn) rfl rfl ?_
  refine go_ge (n := w) (ev_var rfl) (ev_works_len T R (ev_var rfl)) (fun hb => go_no R (no2 hb) rfl (el_lst1 ev_c)) fun hb => ?_
  have w5 := (W.wk w hb).1
  refine go_if (et_or (et_test (ev_I (i := (i : Int)) (ev_var rfl) ev_c)) fun _ => et_not (et_test (ev_chain (j := (n : Int)) ev_c (ev_var rfl) ev_c))) (fun hd => go_no R ((yes2 hb).trans (if_pos ?_)) rfl (el_lst1 ev_c)) fun hd => ?_
  · rcases Bool.or_eq_true_iff.mp hd with z | z
    · have := of_decide_eq_true z
      omega
    · rw [Bool.not_eq_true', Bool.and_eq_false_iff] at z
      rcases z with z | z
      · have := of_decide_eq_false z
        omega
      · have := of_decide_eq_false z
        omega
  rw [Bool.or_eq_false_iff, Bool.not_eq_false', Bool.and_eq_true] at hd
  have d1 := of_decide_eq_false hd.1
  have d2 := of_decide_eq_true hd.2.1
  have d3 := of_decide_eq_true hd.2.2
  have i5 : i < 5 := by omega
  refine go_asg (ev_fld (ev_works_at (i := w) T R (ev_var rfl) (ev_var rfl) hb) (R.looseF T hb)) ?_
  have hp : H (A (.loose w)) = some (.lst (vns (a.work w).loose)) := R.at_ (.loose w) hb
  refine go_if (et_test (ev_I (ev_I (j := (n : Int)) (ev_ixL (i := (i : Int)) (ev_var rfl) (ev_var rfl) (SqL.of hp) (atI_vns (by omega))) (ev_var rfl)) ev_c)) (fun hd => go_no R (((yes2 hb).trans (if_neg (by omega))).trans (if_pos ?_)) rfl (el_lst1 ev_c)) fun hd => ?_
  · have := of_decide_eq_true hd
    omega
  have d4 := of_decide_eq_false hd
  intro H1 e1 DD q
  have hp5 : H1 (A (.loose w)) = some (.lst (lF5 fun j => (at5 (a.work w).loose j : Int))) := by
    rw [e1 _ _ hp, vns5 w5]
  refine cps_seq ?_
  refine s_augL (y := (n : Int)) (j := i) hp5 (ev_var rfl) (ev_var rfl) (ev_var rfl) i5 fun H2 e2 => ?_
  have el : lF5 (fun j => if j = i then (at5 (a.work w).loose i : Int) + (n : Int) else (at5 (a.work w).loose j : Int)) = vns ((a.work w).loose.modify i fun y => y + n) := by
    rw [vns5 (by rw [List.length_modify]; exact w5)]
    refine lF5_congr fun j hj => ?_
    have ej : at5 ((a.work w).loose.modify i fun y => y + n) j = if i = j then at5 (a.work w).loose j + n else at5 (a.work w).loose j := by
      unfold at5
      rw [List.getD_eq_getElem?_getD, List.getD_eq_getElem?_getD, List.getElem?_modify, List.getElem?_eq_getElem (by omega)]
      show (if i = j then _ else _) = _
      rfl
    rw [ej]
    by_cases h1 : j = i
    · subst h1
      rw [if_pos rfl, if_pos rfl]
      omega
    · rw [if_neg h1, if_neg (fun z => h1 z.symm)]
  have L := ((Lv.new (R.up e1)).up e2).looseL (i := w) (g := (a.work w).loose.modify i fun y => y + n) hb
  rw [← el] at L
  have hnow := upd_same (H := H2) (a := A (.loose w)) (o := HO.lst (lF5 (fun j => if j = i then (at5 (a.work w).loose i : Int) + (n : Int) else (at5 (a.work w).loose j : Int))))
  dsimp only
  refine ret_do L q ((((yes2 hb).trans (if_neg (by omega))).trans (if_neg (by omega))).trans (by rw [works_up hb])) (Bool.or_false b) (el_lst1 ((ev_ixL (i := (i : Int)) (ev_var rfl) (ev_var rfl) (SqL.of hnow) (atI_lF5 i5)).is (congrArg V.int ?_)))
  rw [if_pos (show i = i from rfl)]
  show _ = ((at5 (a.work w).loose i + n : Nat) : Int)
  omega
theorem rd_swap (T : Txt K mg) (hQ : sp_swap K vs H Q E) : Fn (t_swap K) N_swap vs H Q := fn_deed hQ fun A D b a c pn pl ps ns ls e R W Qa hm => by
  obtain ⟨h, s, rfl, rfl, rfl⟩ := hm
  subst e
  refine go_unpL (is := [3, 4]) ((ev_var rfl).asL Qa.hn) rfl rfl ?_
  refine go_if (et_or (et_test (ev_I (i := (h : Int)) (ev_var rfl) (ev_hirings_len T R (ev_var rfl)))) fun _ => et_test (ev_I (i := (s : Int)) (ev_var rfl) (ev_kits_len T R (ev_var rfl)))) (fun hd => go_no R (if_pos ?_) rfl (el_lst1 ev_c)) fun hd => ?_
  · rcases Bool.or_eq_true_iff.mp hd with z | z
    · have := of_decide_eq_true z
      exact Or.inl (has_no (by omega))
    · have := of_decide_eq_true z
      exact Or.inr (has_no (by omega))
  rw [Bool.or_eq_false_iff] at hd
  have d1 := of_decide_eq_false hd.1
  have d2 := of_decide_eq_false hd.2
  have hb : h < a.hires.length := by omega
  have hs : s < a.sets.length := by omega
  have y2 : ∀ x y : Abs × Kv321.Ans, (if a.hasH h = false ∨ a.hasS s = false then x else y) = y := fun x y => if_neg (by
    rw [not_or]
    exact ⟨has_yes hb, has_yes hs⟩)
  have hz := R.hir hb
  have hk := R.kit hs
  have ok := KitOk.of W hs
  obtain ⟨r1, r2, r3, r4, r5, r6, r7⟩ := W.hr h hb
  refine go_asg (ev_hirings_at (i := h) T R (ev_var rfl) (ev_var rfl) hb) ?_
  refine go_ne (m := 0) (ev_fld (ev_var rfl) (hz.how T)) ev_c (fun hh => go_no R ((y2 _ _).trans (if_pos hh)) rfl (el_lst1 ev_c)) fun hh => ?_
  refine go_eq (m := s) (ev_fld (ev_var rfl) (hz.kit T)) (ev_var rfl) (fun hq => go_no R (((y2 _ _).trans (if_neg (by omega))).trans (if_pos hq)) rfl (el_lst1 ev_c)) fun hq => ?_
  refine go_if (et_not (et_B (ca_does (s := s) (x' := some h) R W hs hz ⟨r1, r3, r6, r7⟩ (ca_free_for (x' := some h) R W hz ⟨r1, r3, r6, r7⟩ (ev_var rfl) (ev_var rfl) (ev_var rfl)).L (ev_var rfl) (ev_var rfl) (ev_var rfl) (ev_var rfl)))) (fun hd => go_no R ((((y2 _ _).trans (if_neg (by omega))).trans (if_neg hq)).trans (if_pos (by rw [Bool.not_eq_true'] at hd; exact hd))) rfl (el_lst1 ev_c)) fun hd => ?_
  rw [Bool.not_eq_false'] at hd
  refine go_asg (ev_fld (ev_var rfl) (hz.kit T)) ?_
  intro H1 e1 DD q
  refine cps_hir (i := h) (z := { a.hire h with set := s }) T (Lv.new (R.up e1)) hb T.n_Hiring_kit (ev_var rfl) (ev_var rfl) (fun d p => pt_Hiring_kit _ _ _ _ _ _ _ _ _ _) rfl rfl fun H2 L2 _ => ?_
  have hb2 : h < (upH a h { a.hire h with set := s }).hires.length := by
    show h < (a.hires.set h _).length
    rw [List.length_set]
    exact hb
  have hz2 := L2.R.hir hb2
  have ez2 : (upH a h { a.hire h with set := s }).hire h = { a.hire h with set := s } := by rw [upH_hire hb, if_pos rfl]
  rw [ez2] at hz2
  have hds : FldL K H2 (A (.hir h)) "desks" (vns (a.hire h).desks) := by
    have h9 := hz2.desks T
    exact h9
  have hk2 : Kit K H2 (A (.kit s)) (a.set s) := L2.R.kit (i := s) hs
  refine cps_put (i := h) (z := { a.hire h with set := s, loose := a.lacks s (a.hire h).desks }) T L2 hb2 T.n_Hiring_put (ca_lack_ofD hk2 ok r3 (ev_kits_at (i := s) T L2.R (ev_var rfl) (ev_var rfl) hs) (ev_fldL (ev_var rfl) hds)) (ev_var rfl) (fun d p q => by rw [ez2]; exact pt_Hiring_put _ _ _ _ _ _ _ _ _ _) (by rw [ez2]) rfl fun r H3 L3 _ => ?_
  have hb3 : h < (upH (upH a h { a.hire h with set := s }) h { a.hire h with set := s, loose := a.lacks s (a.hire h).desks }).hires.length := by
    show h < ((a.hires.set h _).set h _).length
    rw [List.length_set, List.length_set]
    exact hb
  have hz3 := L3.R.hir hb3
  rw [upH_hire hb2, if_pos rfl, updT_ne (by intro z; cases z)] at hz3
  refine ret_do (x := ⟨((a.hire h).set : Nat), a.lacks s (a.hire h).desks⟩) L3 q (((((y2 _ _).trans (if_neg (by omega))).trans (if_neg hq)).trans (if_neg (by rw [hd]; decide))).trans ?_) (Bool.or_false b) (Ev.isN (el_cat (el_lst1 (ev_var rfl)).L (ev_fldL (ev_var rfl) (hz3.put T)) ?_) rfl)
  · rw [set1_up hb]
    unfold upH
    rw [List.set_set]
  · rw [vns_len]
    show 1 + (map5 _).length ≤ _
    rw [map5_len]
    decide
theorem rd_replace (T : Txt K mg) (hQ : sp_replace K vs H Q E) : Fn (t_replace K) N_replace vs H Q := fn_deed hQ fun A D b a c pn pl ps ns ls e R W Qa hm => by
  obtain ⟨s, rfl, rfl, rfl⟩ := hm
  subst e
  refine go_asg (ev_n0 (ev_var rfl) Qa.hn) ?_
  refine go_ge (ev_var rfl) (ev_kits_len T R (ev_var rfl)) (fun hb => go_no R (no2 hb) rfl (el_lst1 ev_c)) fun hb => ?_
  refine go_if (et_B (ca_is_out R W (ev_var rfl) (ev_var rfl))) (fun ho => go_no R ((yes2 hb).trans (if_pos ho)) rfl (el_lst1 ev_c)) fun ho => ?_
  have ho' : ¬ a.out s = true := by rw [ho]; decide
  have hk := R.kit hb
  obtain ⟨s1, s2, s3, s4, s5⟩ := W.st s hb
  have w2 := (W.wk _ s1).2
  refine go_asg (ev_kits_at T R (ev_var rfl) (ev_var rfl) hb) ?_
  refine go_asg (v := .int (a.lostOf s : Nat)) ((ev_I (ev_lenD (ev_fldL (ev_var rfl) (hk.missing T))) (ev_sum (ns := (a.set s).gone.map fun (n : Nat) => (n : Int)) (ev_fldL (ev_var rfl) (hk.gone T)))).is (congrArg V.int ?_)) ?_
  · rw [vns_len, sum_cast]
    unfold Kv321.Abs.lostOf
    omega
  refine go_eq (m := 0) (ev_var rfl) ev_c (fun h0 => go_no R (((yes2 hb).trans (if_neg ho')).trans (if_pos h0)) rfl (el_lst1 ev_c)) fun h0 => ?_
  intro H1 e1 DD q
  have R1 := R.up e1
  have hk1 := hk.up e1
  refine cps_libAug (a' := { a with spent := a.spent + a.lostOf s * (a.work (a.set s).work).price }) T (Lv.new R1) T.n_Library_replaced (lF_replaced _ _ _ _ _) (j := ((a.lostOf s * (a.work (a.set s).work).price : Nat) : Int))
    ((ev_mul (j := ((a.work (a.set s).work).price : Int)) (ev_var rfl) (ev_fld (ev_works_at T R1 (ev_var rfl) (ev_fld (ev_var rfl) (hk1.work T)) s1) ((R1.work s1).price T)) (cm2 (by omega))).is (congrArg V.int (by rw [Int.natCast_mul]))) (ev_var rfl) (pt_Library_replaced _ _ _ _ _ _ _ _ _ _) rfl rfl rfl fun H2 L2 _ => ?_
  refine cps_miss (i := s) (z := { a.set s with missing := [] }) (l := []) T L2 hb T.n_Kit_missing el_nil (ev_var rfl) (fun s m g q => pt_Kit_missing _ _ _ _ _ _) rfl rfl rfl fun r H3 L3 _ => ?_
  have hb3 : s < (upS { a with spent := a.spent + a.lostOf s * (a.work (a.set s).work).price } s { a.set s with missing := [] }).sets.length := by
    show s < (a.sets.set s _).length
    rw [List.length_set]
    exact hb
  have ez3 : (upS { a with spent := a.spent + a.lostOf s * (a.work (a.set s).work).price } s { a.set s with missing := [] }).set s = { a.set s with missing := [] } := by
    rw [upS_set, if_pos rfl]
    exact hb
  refine cps_gone (i := s) (z := { a.set s with missing := [], gone := five }) (l := five) T L3 hb3 T.n_Kit_gone (el_rep0 ev_c) ((ev_var rfl).is (congrArg V.ref (updT_ne (by intro z; cases z)).symm)) (fun s m g q => by rw [ez3]; exact pt_Kit_gone _ _ _ _ _ _) (by rw [ez3]) (by rw [ez3]) rfl fun r' H4 L4 _ => ?_
  refine ret_do (x := Kv321.say (a.lostOf s : Nat)) L4 q ((((yes2 hb).trans (if_neg ho')).trans (if_neg h0)).trans ?_) (Bool.or_false b) (el_lst1 (ev_var rfl))
  rw [mod_set (d := ⟨99, five, [], five, none⟩) hb]
  unfold upS
  rw [List.set_set]
  rfl
end
end Pl

/-! ### back, hire -/
namespace Pl
open PySem PySem.Spec PyProof.Rows L2
open Kv321 (Abs Hire Set_ at5 map5 five okDesks okDays rising)
section
variable {K : PySem.W.Frag} {mg : Str → Option Value} {G H H' : Hp} {A A0 D A' D' : Tag → Addr} {b b' : Bool} {a a0 a' : Abs} {p : Addr}
variable {σ : L2.St} {te ta tb tc td tf tv to : TE} {d : Dsc} {v : V} {DD : Ends} {ts tr tw : TS} {x dx C : Addr} {fs : List (Str × V)} {f : Str} {vs : List V} {Q : VK} {E : XK} {P : Post} {c : Kv321.Call} {o o1 o2 o1' o2' : HO}
theorem ex_set {X : Hp} (e : Ex X H') : Ex (upd X p o) (upd H' p o) := fun q u hq => by
  by_cases h : q = p
  · subst h
    rw [upd_same] at hq ⊢
    exact hq
  · rw [upd_ne h] at hq ⊢
    exact e q u hq
theorem ex_self (h : H p = some o) : Ex (upd H p o) H := fun q u hq => by
  by_cases e : q = p
  · subst e
    rw [upd_same] at hq
    rw [h]
    exact hq
  · rw [upd_ne e] at hq
    exact hq
theorem ex_two {p q : Addr} (h : p ≠ q) : Ex (upd (upd H p o1') q o2') (upd (upd (upd (upd H p o1) q o2) p o1') q o2') := fun y u hy => by
  by_cases e : y = q
  · subst e
    rw [upd_same] at hy ⊢
    exact hy
  · rw [upd_ne e] at hy ⊢
    by_cases e2 : y = p
    · subst e2
      rw [upd_same] at hy ⊢
      exact hy
    · rw [upd_ne e2] at hy ⊢
      rw [upd_ne e, upd_ne e2]
      exact hy
theorem rd_lose_strings (T : Txt K mg) (hQ : sp_lose_strings K vs H Q E) : Fn (t_lose_strings K) N_lose_strings vs H Q := by
  obtain ⟨A, D, b, a, h, q, l, rfl, R, hh, hw, hs, w5, g5, p5, hq, nq, l5, fin⟩ := hQ
  have hz := R.hir hh
  let pl := A (.loose (a.hire h).work)
  let pg := A (.gone (a.hire h).set)
  have hne : pl ≠ pg := fun z => by
    have := R.inj (.loose (a.hire h).work) (.gone (a.hire h).set) hw hs z
    cases this
  have hpl : H pl = some (.lst (lF5 fun i => (at5 (a.work (a.hire h).work).loose i : Int))) := by
    rw [← vns5 w5]
    exact R.at_ (.loose (a.hire h).work) hw
  have hpg : H pg = some (.lst (lF5 fun i => (at5 (a.set (a.hire h).set).gone i : Int))) := by
    rw [← vns5 g5]
    exact R.at_ (.gone (a.hire h).set) hs
  let FL : Nat → Nat → Int := fun k i => if i < k then looseI a h l i else (at5 (a.work (a.hire h).work).loose i : Int)
  let FG : Nat → Nat → Int := fun k i => if i < k then goneI a h l i else (at5 (a.set (a.hire h).set).gone i : Int)
  let X : Nat → Hp := fun k => upd (upd H pl (.lst (lF5 (FL k)))) pg (.lst (lF5 (FG k)))
  have hX0 : Ex (X 0) H := by
    have e1 : lF5 (FL 0) = lF5 fun i => (at5 (a.work (a.hire h).work).loose i : Int) := lF5_congr fun i _ => if_neg (Nat.not_lt_zero i)
    have e2 : lF5 (FG 0) = lF5 fun i => (at5 (a.set (a.hire h).set).gone i : Int) := lF5_congr fun i _ => if_neg (Nat.not_lt_zero i)
    show Ex (upd (upd H pl (.lst (lF5 (FL 0)))) pg (.lst (lF5 (FG 0)))) H
    rw [e1, e2]
    exact (ex_self (by rw [upd_ne (Ne.symm hne)]; exact hpg)).trans (ex_self hpl)
  have hXq : ∀ k, X k q = some (.lst (vns l)) := fun k => by
    have n1 : q ≠ pg := fun z => nq ⟨.gone (a.hire h).set, hs, z.symm⟩
    have n2 : q ≠ pl := fun z => nq ⟨.loose (a.hire h).work, hw, z.symm⟩
    show upd (upd H pl _) pg _ q = _
    rw [upd_ne n1, upd_ne n2]
    exact hq
  have hXt : ∀ (k : Nat) (t : Tag), t.ok a → t ≠ .loose (a.hire h).work → t ≠ .gone (a.hire h).set → X k (A t) = some (cont K A D b a t) := fun k t ht n1 n2 => by
    have m1 : A t ≠ pl := fun z => n1 (R.inj _ _ ht hw z)
    have m2 : A t ≠ pg := fun z => n2 (R.inj _ _ ht hs z)
    show upd (upd H pl _) pg _ (A t) = _
    rw [upd_ne m2, upd_ne m1]
    exact R.at_ t ht
  have hXz : ∀ k, Hir K (X k) (A (.hir h)) (a.hire h) := fun k => ⟨_, _, _, hXt k (.hir h) hh (by intro z; cases z) (by intro z; cases z), hXt k (.desks h) hh (by intro z; cases z) (by intro z; cases z), hXt k (.put h) hh (by intro z; cases z) (by intro z; cases z)⟩
  refine cps_asg (ev_fld (ev_works_at T R (ev_var rfl) (ev_fld (ev_var rfl) (hz.work T)) hw) (R.looseF T hw)) fun v H1 e1 hv => ?_
  have hv' : v = .ref pl := hv
  subst hv'
  have R1 := R.up e1
  have hz1 := hz.up e1
  refine cps_asg (ev_fld (ev_kits_at T R1 (ev_var rfl) (ev_fld (ev_var rfl) (hz1.kit T)) hs) (R1.goneF T hs)) fun v H2 e2 hv => ?_
  have hv' : v = .ref pg := hv
  subst hv'
  have ha : Evl.EvA (tCons (tC (.int 5)) tNil) [some (.ref (A .lib)), some (.ref (A (.hir h))), some (.ref q), some (.ref pl), some (.ref pg), none, none] H2 [.int 5] := Evl.ea_cons Evl.ev_c Evl.ea_nil
  refine Evl.s_forR1 ha (by decide) (fun j σ' H' => (∃ s5 s6, σ' = [some (.ref (A .lib)), some (.ref (A (.hir h))), some (.ref q), some (.ref pl), some (.ref pg), s5, s6]) ∧ Ex (X j) H') (fun H3 e3 => ⟨⟨_, _, rfl⟩, hX0.trans ((e1.trans e2).trans e3)⟩) (fun j σ' H' hj ⟨⟨s5, s6, hσ⟩, e4⟩ => ?_) fun σ' H' ⟨_, e4⟩ => ?_
  · subst hσ
    have j5 : j < 5 := by omega
    have hz4 := (hXz j).up e4
    have hq4 := e4 _ _ (hXq j)
    have hpl4 : H' pl = some (.lst (lF5 (FL j))) := e4 _ _ (by show upd (upd H pl _) pg _ pl = _; rw [upd_ne hne, upd_same])
    have hpg4 : H' pg = some (.lst (lF5 (FG j))) := e4 _ _ upd_same
    refine cps_asg (d := dV (.int ((min (at5 l j) (at5 (a.hire h).loose j) : Nat) : Int))) ((ev_min2 (ev_ixL (i := (j : Int)) (ev_var rfl) (ev_var rfl) (SqL.of hq4) (atI_vns (by omega))) (ev_ixD (i := (j : Int)) (ev_fldL (ev_var rfl) (hz4.put T)) (ev_var rfl) (atI_vns (by omega)))).is (congrArg V.int ?_)) fun v H5 e5 hv => ?_
    · split <;> omega
    have hv' : v = .int ((min (at5 l j) (at5 (a.hire h).loose j) : Nat) : Int) := hv
    subst hv'
    refine cps_seq ?_
    refine s_augL (y := ((min (at5 l j) (at5 (a.hire h).loose j) : Nat) : Int)) (j := j) (e5 _ _ hpl4) (ev_var rfl) (ev_var rfl) (ev_var rfl) j5 fun H6 e6 => ?_
    have eX := ex_set (p := pl) (o := HO.lst (lF5 fun i => if i = j then FL j j - ((min (at5 l j) (at5 (a.hire h).loose j) : Nat) : Int) else FL j i)) ((e4.trans e5).trans e6)
    have hq6 : upd (X j) pl (HO.lst (lF5 fun i => if i = j then FL j j - ((min (at5 l j) (at5 (a.hire h).loose j) : Nat) : Int) else FL j i)) q = some (.lst (vns l)) := by
      rw [upd_ne (fun z => nq ⟨.loose (a.hire h).work, hw, z.symm⟩)]
      exact hXq j
    have hpg6 : upd (X j) pl (HO.lst (lF5 fun i => if i = j then FL j j - ((min (at5 l j) (at5 (a.hire h).loose j) : Nat) : Int) else FL j i)) pg = some (.lst (lF5 (FG j))) := by
      rw [upd_ne (Ne.symm hne)]
      exact upd_same
    dsimp only
    refine s_augL (y := (at5 l j : Int) - ((min (at5 l j) (at5 (a.hire h).loose j) : Nat) : Int)) (j := j) (eX _ _ hpg6) (ev_var rfl) (ev_var rfl) (ev_I (ev_ixL (i := (j : Int)) (ev_var rfl) (ev_var rfl) (SqL.of (eX _ _ hq6)) (atI_vns (by omega))) (ev_var rfl)) j5 fun H7 e7 => ?_
    refine ⟨⟨_, _, rfl⟩, ?_⟩
    have eY := ex_set (p := pg) (o := HO.lst (lF5 fun i => if i = j then FG j j + ((at5 l j : Int) - ((min (at5 l j) (at5 (a.hire h).loose j) : Nat) : Int)) else FG j i)) (eX.trans e7)
    refine Ex.trans ?_ eY
    have q1 : lF5 (FL (j + 1)) = lF5 fun i => if i = j then FL j j - ((min (at5 l j) (at5 (a.hire h).loose j) : Nat) : Int) else FL j i := lF5_congr fun i _ => by
      show (if i < j + 1 then looseI a h l i else _) = if i = j then (if j < j then _ else _) - _ else if i < j then looseI a h l i else _
      by_cases c1 : i = j
      · subst c1
        rw [if_pos (by omega), if_pos (show i = i from rfl), if_neg (by omega)]
        rfl
      · rw [if_neg c1]
        by_cases c2 : i < j
        · rw [if_pos (by omega), if_pos c2]
        · rw [if_neg (by omega), if_neg c2]
    have q2 : lF5 (FG (j + 1)) = lF5 fun i => if i = j then FG j j + ((at5 l j : Int) - ((min (at5 l j) (at5 (a.hire h).loose j) : Nat) : Int)) else FG j i := lF5_congr fun i _ => by
      show (if i < j + 1 then goneI a h l i else _) = if i = j then (if j < j then _ else _) + _ else if i < j then goneI a h l i else _
      by_cases c1 : i = j
      · subst c1
        rw [if_pos (by omega), if_pos (show i = i from rfl), if_neg (by omega)]
        unfold goneI
        omega
      · rw [if_neg c1]
        by_cases c2 : i < j
        · rw [if_pos (by omega), if_pos c2]
        · rw [if_neg (by omega), if_neg c2]
    show Ex (upd (upd H pl (.lst (lF5 (FL (j + 1))))) pg (.lst (lF5 (FG (j + 1))))) _
    rw [q1, q2]
    exact ex_two hne
  · have q1 : lF5 (FL 5) = lF5 (looseI a h l) := lF5_congr fun i hi => if_pos hi
    have q2 : lF5 (FG 5) = lF5 (goneI a h l) := lF5_congr fun i hi => if_pos hi
    refine fin H' ?_
    rw [← q1, ← q2]
    exact e4
theorem cps_if {t : TT} {bb : Bool} (h : EvT t σ H bb) (h1 : bb = true → ∀ H1, Ex H H1 → ts { DD with nx := tw DD } σ H1) (h2 : bb = false → ∀ H1, Ex H H1 → tw DD σ H1) : tSeq (tIfS t ts tNext) tw DD σ H := h H (Ex.refl H) _ fun H1 e => by
  cases bb with
  | true => exact h1 rfl H1 e
  | false => exact h2 rfl H1 e
theorem cps_callS {sp : Sp} {ws : List V} {t : TA} (ha : EvA t σ H (ws.map dV)) (k : ∀ H1, Ex H H1 → sp ws H1 (fun _ H2 => tw DD σ H2) E0) : tSeq (tDrop (tCall sp [] E0 t)) tw DD σ H := ha H (Ex.refl H) _ fun vs H1 e hv => by
  have h := k H1 e
  rw [Iss.vals hv]
  rw [← List.append_nil ws] at h
  exact h
theorem Lv.loc (L : Lv K G A0 a0 H A D b a) (hx : ¬ Own A a x) (hg : G x = none) : Lv K G A0 a0 (upd H x o) A D b a :=
  ⟨⟨fun t ht => by
    rw [upd_ne (fun z => hx ⟨t, ht, z⟩)]
    exact L.R.at_ t ht, L.R.inj⟩, L.S.upd (Or.inr hg) fun q h => Or.inl h, L.l⟩
theorem rd_back (T : Txt K mg) (hQ : sp_back K vs H Q E) : Fn (t_back K) N_back vs H Q := fn_deed hQ fun A D b a c pn pl ps ns ls e R W Qa hm => by
  obtain ⟨h, w, l, rfl, rfl, rfl⟩ := hm
  subst e
  obtain ⟨p, q, rfl, ⟨hp, np, lp⟩, ⟨hq, nq, lq⟩, hl⟩ := Qa.two
  refine go_asg (ev_n0 (ev_var rfl) Qa.hn) ?_
  refine go_unpL (is := [4, 5]) ((ev_var rfl).asL hl) rfl rfl ?_
  refine go_ge (n := h) (ev_var rfl) (ev_hirings_len T R (ev_var rfl)) (fun hb => go_no R (no2 hb) rfl (el_lst1 ev_c)) fun hb => ?_
  have hz := R.hir hb
  obtain ⟨r1, r2, r3, r4, r5, r6, r7⟩ := W.hr h hb
  refine go_asg (ev_hirings_at (i := h) T R (ev_var rfl) (ev_var rfl) hb) ?_
  refine go_ne (m := 1) (ev_fld (ev_var rfl) (hz.how T)) ev_c (fun hh => go_no R ((yes2 hb).trans (if_pos hh)) rfl (el_lst1 ev_c)) fun hh => ?_
  have hv := R.work r1
  refine go_if (et_or (et_not (et_B (ca_are_winds hv hp lp (ev_works_at T R (ev_var rfl) (ev_fld (ev_var rfl) (hz.work T)) r1) (ev_var rfl)))) fun _ => et_not (et_B (ca_are_lost R W hz r2 r4 hq (ev_var rfl) (ev_var rfl) (ev_var rfl)))) (fun hd => go_no R (((yes2 hb).trans (if_neg (by omega))).trans (if_pos ?_)) rfl (el_lst1 ev_c)) fun hd => ?_
  · rcases Bool.or_eq_true_iff.mp hd with z | z
    · rw [Bool.not_eq_true', Bool.and_eq_false_iff] at z
      rcases z with z | z
      · exact Or.inl z
      · rw [Bool.not_eq_false'] at z
        exact Or.inr (Or.inl z)
    · rw [Bool.not_eq_true', Bool.and_eq_false_iff] at z
      rcases z with z | z
      · exact Or.inr (Or.inr (Or.inl (of_decide_eq_false z)))
      · rw [Bool.not_eq_false'] at z
        exact Or.inr (Or.inr (Or.inr z))
  rw [Bool.or_eq_false_iff, Bool.not_eq_false', Bool.not_eq_false', Bool.and_eq_true, Bool.and_eq_true, Bool.not_eq_true', Bool.not_eq_true'] at hd
  obtain ⟨⟨c1, c2⟩, c3, c4⟩ := hd
  have l5 := of_decide_eq_true c3
  have hno : ¬ (rising w = false ∨ w.any (fun x => decide ((a.work (a.hire h).work).winds ≤ x)) = true ∨ l.length ≠ 5 ∨ (List.range 5).any (fun i => decide (at5 (a.sent (a.hire h)) i < at5 l i)) = true) := by
    rw [c1, c2, c4]
    rintro (z | z | z | z)
    · cases z
    · cases z
    · exact z l5
    · cases z
  let m := a.bill (a.hire h) (w.length + l.sum)
  refine go_asg (v := .int (m : Nat)) (ca_bill_of (n := w.length + l.sum) R W hz r1 r5 (ev_var rfl) (ev_var rfl) ((ev_I (ev_lenD ((ev_var (v := .ref p) rfl).asL hp)) (ev_sum (ns := l.map fun (n : Nat) => (n : Int)) ((ev_var (v := .ref q) rfl).asL hq))).is (congrArg V.int (by rw [vns_len, sum_cast]; omega)))) ?_
  intro H1 e1 DD fin
  refine cps_libAug (a' := { a with money := a.money + m }) T (Lv.new (R.up e1)) T.n_Library_paid (lF_paid _ _ _ _ _) (ev_var (v := .int (m : Nat)) rfl) (ev_var rfl) (pt_Library_paid _ _ _ _ _ _ _ _ _ _) rfl rfl rfl fun H2 L2 _ => ?_
  have hz2 : Hir K H2 (A (.hir h)) (a.hire h) := L2.R.hir (i := h) hb
  refine cps_asg (ev_kits_at (i := (a.hire h).set) T L2.R (ev_var rfl) (ev_fld (ev_var rfl) (hz2.kit T)) r2) fun v H3 e3 hv => ?_
  have hv' : v = .ref (A (.kit (a.hire h).set)) := hv
  subst hv'
  have L3 := L2.up e3
  have hp3 := L3.old (e1 _ _ hp) np
  have hq3 := L3.old (e1 _ _ hq) nq
  let s := (a.hire h).set
  let k1 : Set_ := { a.set s with missing := w }
  refine cps_miss (i := s) (z := k1) (l := w) T L3 r2 T.n_Kit_missing (el_listD ((ev_var (v := .ref p) rfl).asL hp3)) (ev_var rfl) (fun s m g q => pt_Kit_missing _ _ _ _ _ _) rfl rfl rfl fun r H4 L4 _ => ?_
  have hq4 := L4.old (e1 _ _ hq) nq
  let a2 : Abs := upS { a with money := a.money + m } s k1
  have hs2 : s < a2.sets.length := by
    show s < (a.sets.set s k1).length
    rw [List.length_set]
    exact r2
  have ek2 : a2.set s = k1 := by
    show (upS { a with money := a.money + m } s k1).set s = k1
    rw [upS_set, if_pos rfl]
    exact r2
  obtain ⟨s1, s2, s3, s4, s5⟩ := W.st _ r2
  have w5 := (W.wk _ r1).1
  have hA4 : updT A (.miss s) r (.hir h) = A (.hir h) := updT_ne (by intro z; cases z)
  refine cps_callS (ws := [.ref (updT A (.miss s) r .lib), .ref (updT A (.miss s) r (.hir h)), .ref q]) (ea_cons ((ev_var (v := .ref (A .lib)) rfl).is (congrArg V.ref L4.l.symm)) (ea_cons ((ev_var (v := .ref (A (.hir h))) rfl).is (congrArg V.ref hA4.symm)) (ea_cons (ev_var (v := .ref q) rfl) ea_nil))) fun H5 e5 => ?_
  have L5 := L4.up e5
  refine ⟨updT A (.miss s) r, D, b, a2, h, q, l, rfl, L5.R, hb, r1, hs2, w5, ?_, r4, e5 _ _ hq4, ?_, l5, fun H6 e6 => ?_⟩
  · show (a2.set s).gone.length = 5
    rw [ek2]
    exact s3
  · intro z
    rcases L5.S.own _ z with z | z
    · exact nq z
    · rw [e1 _ _ hq] at z
      cases z
  let o : List Nat := map5 fun i => min (at5 l i) (at5 (a.hire h).loose i)
  let l' : List Nat := map5 fun i => at5 (a.work (a.hire h).work).loose i - at5 o i
  let g' : List Nat := map5 fun i => at5 (a.set s).gone i + (at5 l i - at5 o i)
  have ho : ∀ i, i < 5 → at5 o i = min (at5 l i) (at5 (a.hire h).loose i) := fun i hi => at5_map5 hi
  have hput : ∀ i, at5 (a.hire h).loose i ≤ at5 (a.work (a.hire h).work).loose i := fun i => by
    have q1 := ctr_le (a := a) (h := h) (w := (a.hire h).work) (i := i) hb
    have q2 : ctr (a.hire h).work i (a.hire h) = at5 (a.hire h).loose i := by
      unfold ctr
      rw [hh, beq_self_eq_true]
      rfl
    have q3 := W.ln (a.hire h).work i
    omega
  have eL : lF5 (looseI a2 h l) = vns l' := by
    rw [vns_map5]
    refine lF5_congr fun i hi => ?_
    show (at5 (a.work (a.hire h).work).loose i : Int) - ((min (at5 l i) (at5 (a.hire h).loose i) : Nat) : Int) = _
    rw [ho i hi]
    have := hput i
    omega
  have eG : lF5 (goneI a2 h l) = vns g' := by
    rw [vns_map5]
    refine lF5_congr fun i hi => ?_
    show (at5 (a2.set s).gone i : Int) + ((at5 l i - min (at5 l i) (at5 (a.hire h).loose i) : Nat) : Int) = _
    rw [ek2, ho i hi]
    show (at5 (a.set s).gone i : Int) + _ = _
    omega
  rw [eL, eG] at e6
  let v' : Kv321.Work := { a.work (a.hire h).work with loose := l' }
  let k2 : Set_ := { k1 with gone := g' }
  have L6a : Lv K H1 A a _ (updT A (.miss s) r) D b (upW a2 (a.hire h).work v') := L5.looseL (i := (a.hire h).work) (g := l') r1
  have L6b := L6a.goneL (i := s) (g := g') hs2
  have ek6 : (upW a2 (a.hire h).work v').set s = k1 := ek2
  rw [ek6] at L6b
  have L6 : Lv K H1 A a H6 (updT A (.miss s) r) D b (upS (upW a2 (a.hire h).work v') s k2) := L6b.up e6
  let a3 : Abs := upS (upW a2 (a.hire h).work v') s k2
  have hs3 : s < a3.sets.length := by
    show s < ((a.sets.set s k1).set s k2).length
    rw [List.length_set, List.length_set]
    exact r2
  have ek3 : a3.set s = k2 := by
    show (upS (upW a2 (a.hire h).work v') s k2).set s = k2
    rw [upS_set, if_pos rfl]
    exact hs2
  let k3 : Set_ := { k2 with marked := some h }
  dsimp only
  refine cps_kit (i := s) (z := k3) T L6 hs3 T.n_Kit_marked (ev_I (i := (h : Int)) (ev_var rfl) ev_c) ((ev_var (v := .ref (A (.kit s))) rfl).is (congrArg V.ref (updT_ne (by intro z; cases z)).symm)) (fun s' m' g => by rw [ek3]; exact pt_Kit_marked _ _ _ _ _ _) (by rw [ek3]) (by rw [ek3]) (by rw [ek3]) fun H7 L7 _ => ?_
  refine cps_hir (i := h) (z := { a.hire h with how := 2 }) T L7 hb T.n_Hiring_how ev_c ((ev_var (v := .ref (A (.hir h))) rfl).is (congrArg V.ref hA4.symm)) (fun d p => pt_Hiring_how _ _ _ _ _ _ _ _ _ _) rfl rfl fun H8 L8 _ => ?_
  have hb8 : h < (upH (upS a3 s k3) h { a.hire h with how := 2 }).hires.length := by
    show h < (a.hires.set h _).length
    rw [List.length_set]
    exact hb
  have hz8 := L8.R.hir hb8
  have ez8 : (upH (upS a3 s k3) h { a.hire h with how := 2 }).hire h = { a.hire h with how := 2 } := by
    rw [upH_hire, if_pos rfl]
    exact hb
  rw [ez8] at hz8
  refine ret_do (x := ⟨(m : Nat), [a.late (a.hire h)]⟩) L8 fin ((((yes2 hb).trans (if_neg (by omega))).trans (if_neg hno)).trans ?_) (Bool.or_false b) (el_lst (vs := [.int (m : Nat), .int ((a.late (a.hire h) : Nat) : Int)]) (ea_cons (ev_var rfl) (ea_cons ((ca_late_by L8.R hz8 ((ev_var (v := .ref (A .lib)) rfl).is (congrArg V.ref L8.l.symm)) ((ev_var (v := .ref (A (.hir h))) rfl).is (congrArg V.ref hA4.symm))).is rfl) ea_nil)) (by show 2 ≤ 100000; decide))
  have f1 : a.works.modify (a.hire h).work (fun x => { x with loose := map5 fun i => at5 x.loose i - at5 o i }) = a.works.set (a.hire h).work v' := mod_set r1
  have f2 : a.sets.modify s (fun x => { x with missing := w, gone := map5 (fun i => at5 x.gone i + (at5 l i - at5 o i)), marked := some h }) = ((a.sets.set s k1).set s k2).set s k3 := by
    rw [List.set_set, List.set_set]
    exact mod_set r2
  have f3 : a.hires.modify h (fun y => { y with how := 2 }) = a.hires.set h { a.hire h with how := 2 } := mod_set hb
  show ((⟨a.turn, a.fine, a.today, a.works.modify (a.hire h).work (fun x => { x with loose := map5 fun i => at5 x.loose i - at5 o i }), a.sets.modify s (fun x => { x with missing := w, gone := map5 (fun i => at5 x.gone i + (at5 l i - at5 o i)), marked := some h }), a.hires.modify h (fun y => { y with how := 2 }), a.money + m, a.spent⟩ : Abs), _) = _
  rw [f1, f2, f3]
  rfl
end
end Pl

/-! ### hire -/
namespace Pl
open PySem PySem.Spec PyProof.Rows L2
open Kv321 (Abs Hire Set_ at5 map5 five okDesks okDays rising)
section
variable {K : PySem.W.Frag} {mg : Str → Option Value} {G H H' : Hp} {A A0 D A' D' : Tag → Addr} {b b' : Bool} {a a0 a' : Abs} {p : Addr}
variable {σ : L2.St} {te ta tb tc td tf tv to : TE} {d : Dsc} {v : V} {DD : Ends} {ts tr tw : TS} {x dx C : Addr} {fs : List (Str × V)} {f : Str} {vs : List V} {Q : VK} {E : XK} {P : Post} {c : Kv321.Call}
theorem rd_hire (T : Txt K mg) (hQ : sp_hire K vs H Q E) : Fn (t_hire K) N_hire vs H Q := fn_deed hQ fun A D b a c pn pl ps ns ls e R W Qa hm => by
  obtain ⟨w, f, n, k, cl, l, rfl, rfl, rfl⟩ := hm
  subst e
  obtain ⟨p, rfl, hp, np, _, hl⟩ := Qa.one
  have hW := W.nH
  refine go_unpL (is := [3, 4, 5, 6, 7]) ((ev_var rfl).asL Qa.hn) rfl rfl ?_
  refine go_ge (n := w) (ev_var rfl) (ev_works_len T R (ev_var rfl)) (fun hb => go_no R (no2 hb) rfl (el_lst1 ev_c)) fun hb => ?_
  refine go_if (et_or (et_not (et_B (ca_are_days_right (f := f) (n := n) R (ev_var rfl) (ev_var rfl) (ev_var rfl)))) fun _ => et_or (et_not (et_test (ev_chain (j := (k : Int)) ev_c (ev_var rfl) ev_c))) fun _ => et_test (ev_I (i := (cl : Int)) (ev_var rfl) ev_c)) (fun hd => go_no R ((yes2 hb).trans (if_pos ?_)) rfl (el_lst1 ev_c)) fun hd => ?_
  · rw [Bool.or_eq_true, Bool.or_eq_true] at hd
    rcases hd with z | z | z
    · rw [Bool.not_eq_true'] at z
      exact Or.inl z
    · rw [Bool.not_eq_true', Bool.and_eq_false_iff] at z
      rcases z with z | z
      · have := of_decide_eq_false z
        exact Or.inr (Or.inl (by omega))
      · have := of_decide_eq_false z
        exact Or.inr (Or.inr (Or.inl (by omega)))
    · have := of_decide_eq_true z
      exact Or.inr (Or.inr (Or.inr (Or.inl (by omega))))
  rw [Bool.or_eq_false_iff, Bool.or_eq_false_iff, Bool.not_eq_false', Bool.not_eq_false', Bool.and_eq_true] at hd
  obtain ⟨od, ⟨d1, d2⟩, d3⟩ := hd
  have d1' := of_decide_eq_true d1
  have d2' := of_decide_eq_true d2
  have d3' := of_decide_eq_false d3
  obtain ⟨o1, o2, o3, o4⟩ := okDays_nums od
  refine go_if (et_not (et_B (ca_are_parts hp (ev_l0 (ev_var rfl) hl)))) (fun hd => go_no R ((yes2 hb).trans (if_pos (Or.inr (Or.inr (Or.inr (Or.inr (by rw [Bool.not_eq_true'] at hd; exact hd))))))) rfl (el_lst1 ev_c)) fun hd => ?_
  rw [Bool.not_eq_false'] at hd
  have l5 := okDesks_len hd
  have hno : ¬ (okDays a f n = false ∨ k = 0 ∨ 20 < k ∨ 1 < cl ∨ okDesks l = false) := by
    rw [od, hd]
    rintro (z | z | z | z | z)
    · cases z
    · omega
    · omega
    · omega
    · cases z
  refine go_eq (m := 40) (ev_hirings_len T R (ev_var rfl)) ev_c (fun h8 => go_no R (((yes2 hb).trans (if_neg hno)).trans (if_pos (by omega))) rfl (el_lst1 ev_c)) fun h8 => ?_
  intro H1 e1 DD fin
  have R1 := R.up e1
  have L1 := Lv.new R1
  have hdo : a.does (.hire w f n k cl l) = match a.best w f n l with
    | none => (a, Kv321.say (-33))
    | some s => ({ a with hires := a.hires ++ [⟨w, f, n, l, k, cl == 1, s, a.lacks s l, 0⟩] }, ⟨(a.hires.length : Nat), s :: a.lacks s l⟩) := ((yes2 hb).trans (if_neg hno)).trans (if_neg (by omega))
  let z0 : Hire := ⟨w, f, n, l, k, cl == 1, 0, five, 0⟩
  have ecl : (cl : Int) = clI (cl == 1) := by
    have : cl = 0 ∨ cl = 1 := by omega
    rcases this with z | z <;> subst z <;> rfl
  refine cps_asg (ev_make_Hiring (w := w) (f := f) (n := n) (c := k) (cl := cl == 1) (l := l) (ev_var rfl) (ev_var rfl) (ev_var rfl) (ev_var rfl) ((ev_var (v := .int (cl : Nat)) rfl).is (congrArg V.int ecl)) (el_listD ((ev_l0 (ev_var rfl) (e1 _ _ hl)).asL (e1 _ _ hp)))) fun v H2 e2 ⟨x, dx, dd, q, h1, ⟨f1, f2, f3⟩, n1, g1, g2, g3⟩ => ?_
  subst h1
  have L2 := L1.up e2
  have hz2 : Hir K H2 x z0 := ⟨dx, dd, q, g1, g2, g3⟩
  have oz : HirOk a z0 := ⟨hb, l5, o2, o4⟩
  refine cps_asg (ca_that_do (x' := none) L2.R W hz2 oz (ev_var rfl) (ev_var rfl) ev_c) fun v H3 e3 ⟨r, h1, h2, h3⟩ => ?_
  subst h1
  have L3 := L2.up e3
  have h3' : H3 r = some (.lst (vns (a.sets_ w f n l))) := h3
  have g1' := e3 _ _ g1
  have g2' := e3 _ _ g2
  cases hs : a.sets_ w f n l with
  | nil =>
    rw [hs] at h3'
    refine cps_if (bb := true) (et_test (ev_eqNil (ns := []) ((ev_var (v := .ref r) rfl).asL h3'))) (fun _ H4 e4 => ?_) fun z => by cases z
    exact ret_do (L3.up e4) fin (hdo.trans (by rw [best_none hs])) (Bool.or_false b) (el_lst1 ev_c)
  | cons s0 rs =>
    obtain ⟨t, ht1, ht2, ht3⟩ := best_of_sets hs
    rw [hs] at h3'
    have hmem : ∀ t ∈ s0 :: rs, t < a.sets.length := fun t ht => by
      rw [← hs] at ht
      exact List.mem_range.mp (List.mem_filter.mp ht).1
    have hts := hmem t ht1
    have hlen : (s0 :: rs).length ≤ 12 := by
      rw [← hs]
      exact Nat.le_trans (sets_len a w f n l) W.nS
    refine cps_if (bb := false) (et_test (ev_eqNil (ns := (s0 :: rs).map fun (n : Nat) => (n : Int)) ((ev_var (v := .ref r) rfl).asL h3'))) (fun z => by cases z) fun _ H4 e4 => ?_
    have L4 := L3.up e4
    have nx : ¬ Own A a x := L1.nown f1
    have hx4 := e4 _ _ g1'
    have hdd4 := e4 _ _ g2'
    have xdd : dd ≠ x := fun z => by
      rw [z, g1] at g2
      cases g2
    refine cps_fld hx4 T.c_Hiring T.n_Hiring_kit (lt1k rfl) (ca_best_of (l := l) L4.R W (e4 _ _ h3') hmem hlen hdd4 l5 (ev_var rfl) (ev_var rfl) (ev_fld (ev_var rfl) ⟨_, _, _, hx4, T.c_Hiring, T.n_Hiring_desks, hF_desks _ _ _⟩)) (ev_var rfl) fun v H5 e5 hv => ?_
    have hv' : v = .int (t : Nat) := by
      have h9 : v = .int (bestI a l s0 rs) := hv
      rw [h9, ht3]
    subst hv'
    have ep : putF "kit" (.int (t : Nat)) (hF z0 dd q) = hF { z0 with set := t } dd q := pt_Hiring_kit _ _ _ _ _ _ _ _ _ _
    rw [ep]
    have L5 := (L4.up e5).loc (o := .ins (He.ga K "Hiring") dx (hF { z0 with set := t } dd q)) nx f1
    have hx5 := upd_same (H := H5) (a := x) (o := .ins (He.ga K "Hiring") dx (hF { z0 with set := t } dd q))
    have hdd5 : upd H5 x (.ins (He.ga K "Hiring") dx (hF { z0 with set := t } dd q)) dd = some (.lst (vns l)) := by
      rw [upd_ne xdd]
      exact e5 _ _ hdd4
    have hk5 := L5.R.kit hts
    have ok := KitOk.of W hts
    refine cps_fld hx5 T.c_Hiring T.n_Hiring_put (lt1k rfl) (ca_lack_ofD hk5 ok l5 (ev_kits_at (i := t) T L5.R (ev_var rfl) (ev_fld (ev_var rfl) ⟨_, _, _, hx5, T.c_Hiring, T.n_Hiring_kit, hF_kit _ _ _⟩) hts) (ev_fldL (ev_var rfl) ⟨dd, ⟨_, _, _, hx5, T.c_Hiring, T.n_Hiring_desks, hF_desks _ _ _⟩, hdd5⟩)) (ev_var rfl) fun v H6 e6 ⟨q2, h1, i2, i3⟩ => ?_
    subst h1
    let z2 : Hire := ⟨w, f, n, l, k, cl == 1, t, a.lacks t l, 0⟩
    have ep2 : putF "put" (.ref q2) (hF { z0 with set := t } dd q) = hF z2 dd q2 := pt_Hiring_put _ _ _ _ _ _ _ _ _ _
    rw [ep2]
    have L6 := (L5.up e6).loc (o := .ins (He.ga K "Hiring") dx (hF z2 dd q2)) nx f1
    have hx6 := upd_same (H := H6) (a := x) (o := .ins (He.ga K "Hiring") dx (hF z2 dd q2))
    have hdd6 : upd H6 x (.ins (He.ga K "Hiring") dx (hF z2 dd q2)) dd = some (.lst (vns l)) := by
      rw [upd_ne xdd]
      exact e6 _ _ hdd5
    have xq2 : q2 ≠ x := fun z => by
      rw [z, hx5] at i2
      cases i2
    have hq6 : upd H6 x (.ins (He.ga K "Hiring") dx (hF z2 dd q2)) q2 = some (.lst (vns (a.lacks t l))) := by
      rw [upd_ne xq2]
      exact i3
    have dq : dd ≠ q2 := ne_of_none hdd5 i2
    refine s_appD (L6.R.at_ .hirs trivial) (ev_fld (ev_var rfl) (L6.R.hirsF T)) (ev_var (v := .ref x) rfl) (by rw [refs_len]; omega) fun v H7 e7 hv => ?_
    have hv' : v = .ref x := hv
    subst hv'
    obtain ⟨A', D', L7, hA, ax⟩ := (L6.up e7).growHiring (v := z2) (e7 _ _ hx6) (e7 _ _ hdd6) (e7 _ _ hq6) nx f1 (L1.nown f2) f2 (L5.nown i2) (L5.S.dom _ i2) dq
    have hbn : a.hires.length < (adH a z2).hires.length := by
      show _ < (a.hires ++ [z2]).length
      rw [List.length_append]
      show _ < a.hires.length + 1
      omega
    have hz7 := L7.R.hir hbn
    rw [ax, adH_hire, if_pos rfl] at hz7
    refine ret_do (x := ⟨(a.hires.length : Nat), t :: a.lacks t l⟩) L7 fin (hdo.trans (by rw [ht2]; rfl)) (Bool.or_false b) (Ev.isN (el_cat (el_lst (vs := [.int (a.hires.length : Nat), .int (t : Nat)]) (ea_cons ((ev_I (ev_hirings_len T L7.R ((ev_var (v := .ref (A .lib)) rfl).is (congrArg V.ref L7.l.symm))) ev_c).is (congrArg V.int ?_)) (ea_cons (ev_fld (ev_var (v := .ref x) rfl) (hz7.kit T)) ea_nil)) (by show 2 ≤ 100000; decide)).L (ev_fldL (ev_var (v := .ref x) rfl) (hz7.put T)) ?_) rfl)
    · show (((a.hires ++ [z2]).length : Nat) : Int) - 1 = _
      rw [List.length_append]
      show ((a.hires.length + 1 : Nat) : Int) - 1 = _
      omega
    · rw [vns_len]
      show 2 + (map5 _).length ≤ _
      rw [map5_len]
      decide
end
end Pl

/-! ### what a call's numbers tell -/
namespace Pl
open PySem PySem.Spec PyProof.Rows L2
open Kv321 (Abs Hire Set_ at5 map5 five okDesks okDays rising)
def codeOf : Kv321.Call → Nat
  | .begin_ _ _ => 0
  | .work _ _ _ _ => 1
  | .set _ _ => 2
  | .loose _ _ _ => 3
  | .hire _ _ _ _ _ _ => 4
  | .cancel _ => 5
  | .send _ => 6
  | .back _ _ _ => 7
  | .replace _ => 8
  | .rub _ => 9
  | .longer _ _ => 10
  | .swap _ _ => 11
  | .days _ => 12
  | .could _ _ _ _ => 13
  | .choices _ _ _ _ => 14
  | .slack _ => 15
  | .most _ => 16
  | .free _ _ _ => 17
  | .lacks _ _ => 18
  | .plan _ => 19
  | .due  => 20
  | .lost _ => 21
  | .torn  => 22
  | .has _ => 23
  | .bill _ => 24
  | .late _ => 25
  | .shelf  => 26
  | .look _ => 27
  | .marks _ => 28
  | .sums  => 29
  | .state  => 30
theorem mk_code {ns : List Nat} {ls : List (List Nat)} {c : Kv321.Call} : ∀ k, mk k ns ls c → codeOf c = k
  | 0, ⟨_, _, _, _, h⟩ => by rw [h]; rfl
  | 1, ⟨_, _, _, _, _, _, h⟩ => by rw [h]; rfl
  | 2, ⟨_, _, _, _, h⟩ => by rw [h]; rfl
  | 3, ⟨_, _, _, _, _, h⟩ => by rw [h]; rfl
  | 4, ⟨_, _, _, _, _, _, _, _, h⟩ => by rw [h]; rfl
  | 5, ⟨_, _, _, h⟩ => by rw [h]; rfl
  | 6, ⟨_, _, _, h⟩ => by rw [h]; rfl
  | 7, ⟨_, _, _, _, _, h⟩ => by rw [h]; rfl
  | 8, ⟨_, _, _, h⟩ => by rw [h]; rfl
  | 9, ⟨_, _, _, h⟩ => by rw [h]; rfl
  | 10, ⟨_, _, _, _, h⟩ => by rw [h]; rfl
  | 11, ⟨_, _, _, _, h⟩ => by rw [h]; rfl
  | 12, ⟨_, _, _, h⟩ => by rw [h]; rfl
  | 13, ⟨_, _, _, _, _, _, h⟩ => by rw [h]; rfl
  | 14, ⟨_, _, _, _, _, _, h⟩ => by rw [h]; rfl
  | 15, ⟨_, _, _, h⟩ => by rw [h]; rfl
  | 16, ⟨_, _, _, h⟩ => by rw [h]; rfl
  | 17, ⟨_, _, _, _, _, h⟩ => by rw [h]; rfl
  | 18, ⟨_, _, _, _, h⟩ => by rw [h]; rfl
  | 19, ⟨_, _, _, h⟩ => by rw [h]; rfl
  | 20, ⟨_, _, h⟩ => by rw [h]; rfl
  | 21, ⟨_, _, _, h⟩ => by rw [h]; rfl
  | 22, ⟨_, _, h⟩ => by rw [h]; rfl
  | 23, ⟨_, _, _, h⟩ => by rw [h]; rfl
  | 24, ⟨_, _, _, h⟩ => by rw [h]; rfl
  | 25, ⟨_, _, _, h⟩ => by rw [h]; rfl
  | 26, ⟨_, _, h⟩ => by rw [h]; rfl
  | 27, ⟨_, _, _, h⟩ => by rw [h]; rfl
  | 28, ⟨_, _, _, h⟩ => by rw [h]; rfl
  | 29, ⟨_, _, h⟩ => by rw [h]; rfl
  | 30, ⟨_, _, h⟩ => by rw [h]; rfl
  | n + 31, h => h.elim
theorem deed_at : ∀ k, k < 31 → ∃ x, tb_DEEDS[k]? = some (.glo x)
  | 0, _ => ⟨_, rfl⟩
  | 1, _ => ⟨_, rfl⟩
  | 2, _ => ⟨_, rfl⟩
  | 3, _ => ⟨_, rfl⟩
  | 4, _ => ⟨_, rfl⟩
  | 5, _ => ⟨_, rfl⟩
  | 6, _ => ⟨_, rfl⟩
  | 7, _ => ⟨_, rfl⟩
  | 8, _ => ⟨_, rfl⟩
  | 9, _ => ⟨_, rfl⟩
  | 10, _ => ⟨_, rfl⟩
  | 11, _ => ⟨_, rfl⟩
  | 12, _ => ⟨_, rfl⟩
  | 13, _ => ⟨_, rfl⟩
  | 14, _ => ⟨_, rfl⟩
  | 15, _ => ⟨_, rfl⟩
  | 16, _ => ⟨_, rfl⟩
  | 17, _ => ⟨_, rfl⟩
  | 18, _ => ⟨_, rfl⟩
  | 19, _ => ⟨_, rfl⟩
  | 20, _ => ⟨_, rfl⟩
  | 21, _ => ⟨_, rfl⟩
  | 22, _ => ⟨_, rfl⟩
  | 23, _ => ⟨_, rfl⟩
  | 24, _ => ⟨_, rfl⟩
  | 25, _ => ⟨_, rfl⟩
  | 26, _ => ⟨_, rfl⟩
  | 27, _ => ⟨_, rfl⟩
  | 28, _ => ⟨_, rfl⟩
  | 29, _ => ⟨_, rfl⟩
  | 30, _ => ⟨_, rfl⟩
  | n + 31, h => by omega
theorem nat_back {z : Int} {b : Nat} (h : Kv321Neutral.natural z b = true) : ((z.toNat : Nat) : Int) = z := by
  unfold Kv321Neutral.natural at h
  have := of_decide_eq_true (Bool.and_eq_true_iff.mp h).1
  omega
theorem row_back {r : List Int} (h : r.all (fun z => Kv321Neutral.natural z 8) = true) : (r.map Int.toNat).map (fun (n : Nat) => (n : Int)) = r := by
  rw [List.map_map]
  conv => rhs; rw [← List.map_id r]
  exact List.map_congr_left fun z hz => nat_back (List.all_eq_true.mp h z hz)
/-- a call's place, numbers, rows as natural ones -/
def Tells (k : Nat) (c : List (List Int)) : Prop := ∃ ns ls cc, c = ((k : Int) :: ns.map fun (n : Nat) => (n : Int)) :: ls.map (fun l => l.map fun (n : Nat) => (n : Int)) ∧ mk k ns ls cc ∧ Kv321Neutral.callOf c = some cc ∧ tb_PLAIN[k]? = some (.int ns.length) ∧ tb_ROWS[k]? = some (.int ls.length) ∧ ∀ l ∈ ls, l.length ≤ 1000
theorem tell_0 {x0 x1 : Int} (h : Kv321Neutral.asked1 [[0, x0, x1]] = true) (hI : PyInside.call PyKv321.bound [[0, x0, x1]] = true) : Tells 0 [[0, x0, x1]] := by
  have h' : (Kv321Neutral.natural x0 32 && Kv321Neutral.natural x1 32) = true := h
  simp only [Bool.and_eq_true] at h'
  obtain ⟨h0, h1⟩ := h'
  refine ⟨[x0.toNat, x1.toNat], [], _, ?_, ⟨_, _, rfl, rfl, rfl⟩, rfl, rfl, rfl, ?_⟩
  rotate_left
  · intro l hl
    cases hl
  show [[0, x0, x1]] = [[((0 : Nat) : Int), ((x0.toNat : Nat) : Int), ((x1.toNat : Nat) : Int)]]
  rw [nat_back h0, nat_back h1]
  rfl
theorem tell_1 {x0 x1 x2 x3 : Int} (h : Kv321Neutral.asked1 [[1, x0, x1, x2, x3]] = true) (hI : PyInside.call PyKv321.bound [[1, x0, x1, x2, x3]] = true) : Tells 1 [[1, x0, x1, x2, x3]] := by
  have h' : (Kv321Neutral.natural x0 32 && Kv321Neutral.natural x1 32 && Kv321Neutral.natural x2 32 && Kv321Neutral.natural x3 32) = true := h
  simp only [Bool.and_eq_true] at h'
  obtain ⟨⟨⟨h0, h1⟩, h2⟩, h3⟩ := h'
  refine ⟨[x0.toNat, x1.toNat, x2.toNat, x3.toNat], [], _, ?_, ⟨_, _, _, _, rfl, rfl, rfl⟩, rfl, rfl, rfl, ?_⟩
  rotate_left
  · intro l hl
    cases hl
  show [[1, x0, x1, x2, x3]] = [[((1 : Nat) : Int), ((x0.toNat : Nat) : Int), ((x1.toNat : Nat) : Int), ((x2.toNat : Nat) : Int), ((x3.toNat : Nat) : Int)]]
  rw [nat_back h0, nat_back h1, nat_back h2, nat_back h3]
  rfl
theorem tell_2 {x0 : Int} {r0 : List Int} (h : Kv321Neutral.asked1 [[2, x0], r0] = true) (hI : PyInside.call PyKv321.bound [[2, x0], r0] = true) : Tells 2 [[2, x0], r0] := by
  have hI' : (PyInside.each (PyKv321.bound 2).1 [x0] && (decide (0 ≤ r0.length) && decide (r0.length ≤ 1000) && r0.all (PyInside.within 0 255) && true)) = true := hI
  simp only [Bool.and_eq_true, decide_eq_true_eq] at hI'
  obtain ⟨_, ⟨⟨⟨_, hL0⟩, _⟩, _⟩⟩ := hI'
  have h' : (Kv321Neutral.natural x0 32 && r0.all (fun (z : Int) => Kv321Neutral.natural z 8) && Kv321Neutral.full ([[2, x0], r0])) = true := h
  simp only [Bool.and_eq_true] at h'
  obtain ⟨⟨h0, h1⟩, h2⟩ := h'
  refine ⟨[x0.toNat], [r0.map Int.toNat], _, ?_, ⟨_, _, rfl, rfl, rfl⟩, rfl, rfl, rfl, ?_⟩
  rotate_left
  · intro l hl
    rw [List.mem_singleton.mp hl, List.length_map]
    exact hL0
  show [[2, x0], r0] = [[((2 : Nat) : Int), ((x0.toNat : Nat) : Int)], (r0.map Int.toNat).map (fun (n : Nat) => (n : Int))]
  rw [nat_back h0, row_back h1]
  rfl
theorem tell_3 {x0 x1 x2 : Int} (h : Kv321Neutral.asked1 [[3, x0, x1, x2]] = true) (hI : PyInside.call PyKv321.bound [[3, x0, x1, x2]] = true) : Tells 3 [[3, x0, x1, x2]] := by
  have h' : (Kv321Neutral.natural x0 32 && Kv321Neutral.natural x1 32 && Kv321Neutral.natural x2 32) = true := h
  simp only [Bool.and_eq_true] at h'
  obtain ⟨⟨h0, h1⟩, h2⟩ := h'
  refine ⟨[x0.toNat, x1.toNat, x2.toNat], [], _, ?_, ⟨_, _, _, rfl, rfl, rfl⟩, rfl, rfl, rfl, ?_⟩
  rotate_left
  · intro l hl
    cases hl
  show [[3, x0, x1, x2]] = [[((3 : Nat) : Int), ((x0.toNat : Nat) : Int), ((x1.toNat : Nat) : Int), ((x2.toNat : Nat) : Int)]]
  rw [nat_back h0, nat_back h1, nat_back h2]
  rfl
theorem tell_4 {x0 x1 x2 x3 x4 : Int} {r0 : List Int} (h : Kv321Neutral.asked1 [[4, x0, x1, x2, x3, x4], r0] = true) (hI : PyInside.call PyKv321.bound [[4, x0, x1, x2, x3, x4], r0] = true) : Tells 4 [[4, x0, x1, x2, x3, x4], r0] := by
  have hI' : (PyInside.each (PyKv321.bound 4).1 [x0, x1, x2, x3, x4] && (decide (0 ≤ r0.length) && decide (r0.length ≤ 1000) && r0.all (PyInside.within 0 255) && true)) = true := hI
  simp only [Bool.and_eq_true, decide_eq_true_eq] at hI'
  obtain ⟨_, ⟨⟨⟨_, hL0⟩, _⟩, _⟩⟩ := hI'
  have h' : (Kv321Neutral.natural x0 32 && Kv321Neutral.natural x1 32 && Kv321Neutral.natural x2 32 && Kv321Neutral.natural x3 32 && Kv321Neutral.natural x4 32 && r0.all (fun (z : Int) => Kv321Neutral.natural z 8) && Kv321Neutral.full ([[4, x0, x1, x2, x3, x4], r0])) = true := h
  simp only [Bool.and_eq_true] at h'
  obtain ⟨⟨⟨⟨⟨⟨h0, h1⟩, h2⟩, h3⟩, h4⟩, h5⟩, h6⟩ := h'
  refine ⟨[x0.toNat, x1.toNat, x2.toNat, x3.toNat, x4.toNat], [r0.map Int.toNat], _, ?_, ⟨_, _, _, _, _, _, rfl, rfl, rfl⟩, rfl, rfl, rfl, ?_⟩
  rotate_left
  · intro l hl
    rw [List.mem_singleton.mp hl, List.length_map]
    exact hL0
  show [[4, x0, x1, x2, x3, x4], r0] = [[((4 : Nat) : Int), ((x0.toNat : Nat) : Int), ((x1.toNat : Nat) : Int), ((x2.toNat : Nat) : Int), ((x3.toNat : Nat) : Int), ((x4.toNat : Nat) : Int)], (r0.map Int.toNat).map (fun (n : Nat) => (n : Int))]
  rw [nat_back h0, nat_back h1, nat_back h2, nat_back h3, nat_back h4, row_back h5]
  rfl
theorem tell_5 {x0 : Int} (h : Kv321Neutral.asked1 [[5, x0]] = true) (hI : PyInside.call PyKv321.bound [[5, x0]] = true) : Tells 5 [[5, x0]] := by
  have h' : (Kv321Neutral.natural x0 32) = true := h
  have h0 := h'
  refine ⟨[x0.toNat], [], _, ?_, ⟨_, rfl, rfl, rfl⟩, rfl, rfl, rfl, ?_⟩
  rotate_left
  · intro l hl
    cases hl
  show [[5, x0]] = [[((5 : Nat) : Int), ((x0.toNat : Nat) : Int)]]
  rw [nat_back h0]
  rfl
theorem tell_6 {x0 : Int} (h : Kv321Neutral.asked1 [[6, x0]] = true) (hI : PyInside.call PyKv321.bound [[6, x0]] = true) : Tells 6 [[6, x0]] := by
  have h' : (Kv321Neutral.natural x0 32) = true := h
  have h0 := h'
  refine ⟨[x0.toNat], [], _, ?_, ⟨_, rfl, rfl, rfl⟩, rfl, rfl, rfl, ?_⟩
  rotate_left
  · intro l hl
    cases hl
  show [[6, x0]] = [[((6 : Nat) : Int), ((x0.toNat : Nat) : Int)]]
  rw [nat_back h0]
  rfl
theorem tell_7 {x0 : Int} {r0 r1 : List Int} (h : Kv321Neutral.asked1 [[7, x0], r0, r1] = true) (hI : PyInside.call PyKv321.bound [[7, x0], r0, r1] = true) : Tells 7 [[7, x0], r0, r1] := by
  have hI' : (PyInside.each (PyKv321.bound 7).1 [x0] && (decide (0 ≤ r0.length) && decide (r0.length ≤ 1000) && r0.all (PyInside.within 0 255) && (decide (0 ≤ r1.length) && decide (r1.length ≤ 1000) && r1.all (PyInside.within 0 255) && true))) = true := hI
  simp only [Bool.and_eq_true, decide_eq_true_eq] at hI'
  obtain ⟨_, ⟨⟨⟨_, hL0⟩, _⟩, ⟨⟨⟨_, hL1⟩, _⟩, _⟩⟩⟩ := hI'
  have h' : (Kv321Neutral.natural x0 32 && r0.all (fun (z : Int) => Kv321Neutral.natural z 8) && r1.all (fun (z : Int) => Kv321Neutral.natural z 8) && Kv321Neutral.full ([[7, x0], r0, r1])) = true := h
  simp only [Bool.and_eq_true] at h'
  obtain ⟨⟨⟨h0, h1⟩, h2⟩, h3⟩ := h'
  refine ⟨[x0.toNat], [r0.map Int.toNat, r1.map Int.toNat], _, ?_, ⟨_, _, _, rfl, rfl, rfl⟩, rfl, rfl, rfl, ?_⟩
  rotate_left
  · intro l hl
    rcases List.mem_cons.mp hl with e | hl
    · rw [e, List.length_map]
      exact hL0
    · rw [List.mem_singleton.mp hl, List.length_map]
      exact hL1
  show [[7, x0], r0, r1] = [[((7 : Nat) : Int), ((x0.toNat : Nat) : Int)], (r0.map Int.toNat).map (fun (n : Nat) => (n : Int)), (r1.map Int.toNat).map (fun (n : Nat) => (n : Int))]
  rw [nat_back h0, row_back h1, row_back h2]
  rfl
theorem tell_8 {x0 : Int} (h : Kv321Neutral.asked1 [[8, x0]] = true) (hI : PyInside.call PyKv321.bound [[8, x0]] = true) : Tells 8 [[8, x0]] := by
  have h' : (Kv321Neutral.natural x0 32) = true := h
  have h0 := h'
  refine ⟨[x0.toNat], [], _, ?_, ⟨_, rfl, rfl, rfl⟩, rfl, rfl, rfl, ?_⟩
  rotate_left
  · intro l hl
    cases hl
  show [[8, x0]] = [[((8 : Nat) : Int), ((x0.toNat : Nat) : Int)]]
  rw [nat_back h0]
  rfl
theorem tell_9 {x0 : Int} (h : Kv321Neutral.asked1 [[9, x0]] = true) (hI : PyInside.call PyKv321.bound [[9, x0]] = true) : Tells 9 [[9, x0]] := by
  have h' : (Kv321Neutral.natural x0 32) = true := h
  have h0 := h'
  refine ⟨[x0.toNat], [], _, ?_, ⟨_, rfl, rfl, rfl⟩, rfl, rfl, rfl, ?_⟩
  rotate_left
  · intro l hl
    cases hl
  show [[9, x0]] = [[((9 : Nat) : Int), ((x0.toNat : Nat) : Int)]]
  rw [nat_back h0]
  rfl
theorem tell_10 {x0 x1 : Int} (h : Kv321Neutral.asked1 [[10, x0, x1]] = true) (hI : PyInside.call PyKv321.bound [[10, x0, x1]] = true) : Tells 10 [[10, x0, x1]] := by
  have h' : (Kv321Neutral.natural x0 32 && Kv321Neutral.natural x1 32) = true := h
  simp only [Bool.and_eq_true] at h'
  obtain ⟨h0, h1⟩ := h'
  refine ⟨[x0.toNat, x1.toNat], [], _, ?_, ⟨_, _, rfl, rfl, rfl⟩, rfl, rfl, rfl, ?_⟩
  rotate_left
  · intro l hl
    cases hl
  show [[10, x0, x1]] = [[((10 : Nat) : Int), ((x0.toNat : Nat) : Int), ((x1.toNat : Nat) : Int)]]
  rw [nat_back h0, nat_back h1]
  rfl
theorem tell_11 {x0 x1 : Int} (h : Kv321Neutral.asked1 [[11, x0, x1]] = true) (hI : PyInside.call PyKv321.bound [[11, x0, x1]] = true) : Tells 11 [[11, x0, x1]] := by
  have h' : (Kv321Neutral.natural x0 32 && Kv321Neutral.natural x1 32) = true := h
  simp only [Bool.and_eq_true] at h'
  obtain ⟨h0, h1⟩ := h'
  refine ⟨[x0.toNat, x1.toNat], [], _, ?_, ⟨_, _, rfl, rfl, rfl⟩, rfl, rfl, rfl, ?_⟩
  rotate_left
  · intro l hl
    cases hl
  show [[11, x0, x1]] = [[((11 : Nat) : Int), ((x0.toNat : Nat) : Int), ((x1.toNat : Nat) : Int)]]
  rw [nat_back h0, nat_back h1]
  rfl
theorem tell_12 {x0 : Int} (h : Kv321Neutral.asked1 [[12, x0]] = true) (hI : PyInside.call PyKv321.bound [[12, x0]] = true) : Tells 12 [[12, x0]] := by
  have h' : (Kv321Neutral.natural x0 32) = true := h
  have h0 := h'
  refine ⟨[x0.toNat], [], _, ?_, ⟨_, rfl, rfl, rfl⟩, rfl, rfl, rfl, ?_⟩
  rotate_left
  · intro l hl
    cases hl
  show [[12, x0]] = [[((12 : Nat) : Int), ((x0.toNat : Nat) : Int)]]
  rw [nat_back h0]
  rfl
theorem tell_13 {x0 x1 x2 : Int} {r0 : List Int} (h : Kv321Neutral.asked1 [[13, x0, x1, x2], r0] = true) (hI : PyInside.call PyKv321.bound [[13, x0, x1, x2], r0] = true) : Tells 13 [[13, x0, x1, x2], r0] := by
  have hI' : (PyInside.each (PyKv321.bound 13).1 [x0, x1, x2] && (decide (0 ≤ r0.length) && decide (r0.length ≤ 1000) && r0.all (PyInside.within 0 255) && true)) = true := hI
  simp only [Bool.and_eq_true, decide_eq_true_eq] at hI'
  obtain ⟨_, ⟨⟨⟨_, hL0⟩, _⟩, _⟩⟩ := hI'
  have h' : (Kv321Neutral.natural x0 32 && Kv321Neutral.natural x1 32 && Kv321Neutral.natural x2 32 && r0.all (fun (z : Int) => Kv321Neutral.natural z 8) && Kv321Neutral.full ([[13, x0, x1, x2], r0])) = true := h
  simp only [Bool.and_eq_true] at h'
  obtain ⟨⟨⟨⟨h0, h1⟩, h2⟩, h3⟩, h4⟩ := h'
  refine ⟨[x0.toNat, x1.toNat, x2.toNat], [r0.map Int.toNat], _, ?_, ⟨_, _, _, _, rfl, rfl, rfl⟩, rfl, rfl, rfl, ?_⟩
  rotate_left
  · intro l hl
    rw [List.mem_singleton.mp hl, List.length_map]
    exact hL0
  show [[13, x0, x1, x2], r0] = [[((13 : Nat) : Int), ((x0.toNat : Nat) : Int), ((x1.toNat : Nat) : Int), ((x2.toNat : Nat) : Int)], (r0.map Int.toNat).map (fun (n : Nat) => (n : Int))]
  rw [nat_back h0, nat_back h1, nat_back h2, row_back h3]
  rfl
theorem tell_14 {x0 x1 x2 : Int} {r0 : List Int} (h : Kv321Neutral.asked1 [[14, x0, x1, x2], r0] = true) (hI : PyInside.call PyKv321.bound [[14, x0, x1, x2], r0] = true) : Tells 14 [[14, x0, x1, x2], r0] := by
  have hI' : (PyInside.each (PyKv321.bound 14).1 [x0, x1, x2] && (decide (0 ≤ r0.length) && decide (r0.length ≤ 1000) && r0.all (PyInside.within 0 255) && true)) = true := hI
  simp only [Bool.and_eq_true, decide_eq_true_eq] at hI'
  obtain ⟨_, ⟨⟨⟨_, hL0⟩, _⟩, _⟩⟩ := hI'
  have h' : (Kv321Neutral.natural x0 32 && Kv321Neutral.natural x1 32 && Kv321Neutral.natural x2 32 && r0.all (fun (z : Int) => Kv321Neutral.natural z 8) && Kv321Neutral.full ([[14, x0, x1, x2], r0])) = true := h
  simp only [Bool.and_eq_true] at h'
  obtain ⟨⟨⟨⟨h0, h1⟩, h2⟩, h3⟩, h4⟩ := h'
  refine ⟨[x0.toNat, x1.toNat, x2.toNat], [r0.map Int.toNat], _, ?_, ⟨_, _, _, _, rfl, rfl, rfl⟩, rfl, rfl, rfl, ?_⟩
  rotate_left
  · intro l hl
    rw [List.mem_singleton.mp hl, List.length_map]
    exact hL0
  show [[14, x0, x1, x2], r0] = [[((14 : Nat) : Int), ((x0.toNat : Nat) : Int), ((x1.toNat : Nat) : Int), ((x2.toNat : Nat) : Int)], (r0.map Int.toNat).map (fun (n : Nat) => (n : Int))]
  rw [nat_back h0, nat_back h1, nat_back h2, row_back h3]
  rfl
theorem tell_15 {x0 : Int} (h : Kv321Neutral.asked1 [[15, x0]] = true) (hI : PyInside.call PyKv321.bound [[15, x0]] = true) : Tells 15 [[15, x0]] := by
  have h' : (Kv321Neutral.natural x0 32) = true := h
  have h0 := h'
  refine ⟨[x0.toNat], [], _, ?_, ⟨_, rfl, rfl, rfl⟩, rfl, rfl, rfl, ?_⟩
  rotate_left
  · intro l hl
    cases hl
  show [[15, x0]] = [[((15 : Nat) : Int), ((x0.toNat : Nat) : Int)]]
  rw [nat_back h0]
  rfl
theorem tell_16 {x0 : Int} (h : Kv321Neutral.asked1 [[16, x0]] = true) (hI : PyInside.call PyKv321.bound [[16, x0]] = true) : Tells 16 [[16, x0]] := by
  have h' : (Kv321Neutral.natural x0 32) = true := h
  have h0 := h'
  refine ⟨[x0.toNat], [], _, ?_, ⟨_, rfl, rfl, rfl⟩, rfl, rfl, rfl, ?_⟩
  rotate_left
  · intro l hl
    cases hl
  show [[16, x0]] = [[((16 : Nat) : Int), ((x0.toNat : Nat) : Int)]]
  rw [nat_back h0]
  rfl
theorem tell_17 {x0 x1 x2 : Int} (h : Kv321Neutral.asked1 [[17, x0, x1, x2]] = true) (hI : PyInside.call PyKv321.bound [[17, x0, x1, x2]] = true) : Tells 17 [[17, x0, x1, x2]] := by
  have h' : (Kv321Neutral.natural x0 32 && Kv321Neutral.natural x1 32 && Kv321Neutral.natural x2 32) = true := h
  simp only [Bool.and_eq_true] at h'
  obtain ⟨⟨h0, h1⟩, h2⟩ := h'
  refine ⟨[x0.toNat, x1.toNat, x2.toNat], [], _, ?_, ⟨_, _, _, rfl, rfl, rfl⟩, rfl, rfl, rfl, ?_⟩
  rotate_left
  · intro l hl
    cases hl
  show [[17, x0, x1, x2]] = [[((17 : Nat) : Int), ((x0.toNat : Nat) : Int), ((x1.toNat : Nat) : Int), ((x2.toNat : Nat) : Int)]]
  rw [nat_back h0, nat_back h1, nat_back h2]
  rfl
theorem tell_18 {x0 : Int} {r0 : List Int} (h : Kv321Neutral.asked1 [[18, x0], r0] = true) (hI : PyInside.call PyKv321.bound [[18, x0], r0] = true) : Tells 18 [[18, x0], r0] := by
  have hI' : (PyInside.each (PyKv321.bound 18).1 [x0] && (decide (0 ≤ r0.length) && decide (r0.length ≤ 1000) && r0.all (PyInside.within 0 255) && true)) = true := hI
  simp only [Bool.and_eq_true, decide_eq_true_eq] at hI'
  obtain ⟨_, ⟨⟨⟨_, hL0⟩, _⟩, _⟩⟩ := hI'
  have h' : (Kv321Neutral.natural x0 32 && r0.all (fun (z : Int) => Kv321Neutral.natural z 8) && Kv321Neutral.full ([[18, x0], r0])) = true := h
  simp only [Bool.and_eq_true] at h'
  obtain ⟨⟨h0, h1⟩, h2⟩ := h'
  refine ⟨[x0.toNat], [r0.map Int.toNat], _, ?_, ⟨_, _, rfl, rfl, rfl⟩, rfl, rfl, rfl, ?_⟩
  rotate_left
  · intro l hl
    rw [List.mem_singleton.mp hl, List.length_map]
    exact hL0
  show [[18, x0], r0] = [[((18 : Nat) : Int), ((x0.toNat : Nat) : Int)], (r0.map Int.toNat).map (fun (n : Nat) => (n : Int))]
  rw [nat_back h0, row_back h1]
  rfl
theorem tell_19 {x0 : Int} (h : Kv321Neutral.asked1 [[19, x0]] = true) (hI : PyInside.call PyKv321.bound [[19, x0]] = true) : Tells 19 [[19, x0]] := by
  have h' : (Kv321Neutral.natural x0 32) = true := h
  have h0 := h'
  refine ⟨[x0.toNat], [], _, ?_, ⟨_, rfl, rfl, rfl⟩, rfl, rfl, rfl, ?_⟩
  rotate_left
  · intro l hl
    cases hl
  show [[19, x0]] = [[((19 : Nat) : Int), ((x0.toNat : Nat) : Int)]]
  rw [nat_back h0]
  rfl
theorem tell_20 (h : Kv321Neutral.asked1 [[20]] = true) (hI : PyInside.call PyKv321.bound [[20]] = true) : Tells 20 [[20]] := by
  refine ⟨[], [], _, ?_, ⟨rfl, rfl, rfl⟩, rfl, rfl, rfl, ?_⟩
  rotate_left
  · intro l hl
    cases hl
  show [[20]] = [[((20 : Nat) : Int)]]
  rfl
theorem tell_21 {x0 : Int} (h : Kv321Neutral.asked1 [[21, x0]] = true) (hI : PyInside.call PyKv321.bound [[21, x0]] = true) : Tells 21 [[21, x0]] := by
  have h' : (Kv321Neutral.natural x0 32) = true := h
  have h0 := h'
  refine ⟨[x0.toNat], [], _, ?_, ⟨_, rfl, rfl, rfl⟩, rfl, rfl, rfl, ?_⟩
  rotate_left
  · intro l hl
    cases hl
  show [[21, x0]] = [[((21 : Nat) : Int), ((x0.toNat : Nat) : Int)]]
  rw [nat_back h0]
  rfl
theorem tell_22 (h : Kv321Neutral.asked1 [[22]] = true) (hI : PyInside.call PyKv321.bound [[22]] = true) : Tells 22 [[22]] := by
  refine ⟨[], [], _, ?_, ⟨rfl, rfl, rfl⟩, rfl, rfl, rfl, ?_⟩
  rotate_left
  · intro l hl
    cases hl
  show [[22]] = [[((22 : Nat) : Int)]]
  rfl
theorem tell_23 {x0 : Int} (h : Kv321Neutral.asked1 [[23, x0]] = true) (hI : PyInside.call PyKv321.bound [[23, x0]] = true) : Tells 23 [[23, x0]] := by
  have h' : (Kv321Neutral.natural x0 32) = true := h
  have h0 := h'
  refine ⟨[x0.toNat], [], _, ?_, ⟨_, rfl, rfl, rfl⟩, rfl, rfl, rfl, ?_⟩
  rotate_left
  · intro l hl
    cases hl
  show [[23, x0]] = [[((23 : Nat) : Int), ((x0.toNat : Nat) : Int)]]
  rw [nat_back h0]
  rfl
theorem tell_24 {x0 : Int} (h : Kv321Neutral.asked1 [[24, x0]] = true) (hI : PyInside.call PyKv321.bound [[24, x0]] = true) : Tells 24 [[24, x0]] := by
  have h' : (Kv321Neutral.natural x0 32) = true := h
  have h0 := h'
  refine ⟨[x0.toNat], [], _, ?_, ⟨_, rfl, rfl, rfl⟩, rfl, rfl, rfl, ?_⟩
  rotate_left
  · intro l hl
    cases hl
  show [[24, x0]] = [[((24 : Nat) : Int), ((x0.toNat : Nat) : Int)]]
  rw [nat_back h0]
  rfl
theorem tell_25 {x0 : Int} (h : Kv321Neutral.asked1 [[25, x0]] = true) (hI : PyInside.call PyKv321.bound [[25, x0]] = true) : Tells 25 [[25, x0]] := by
  have h' : (Kv321Neutral.natural x0 32) = true := h
  have h0 := h'
  refine ⟨[x0.toNat], [], _, ?_, ⟨_, rfl, rfl, rfl⟩, rfl, rfl, rfl, ?_⟩
  rotate_left
  · intro l hl
    cases hl
  show [[25, x0]] = [[((25 : Nat) : Int), ((x0.toNat : Nat) : Int)]]
  rw [nat_back h0]
  rfl
theorem tell_26 (h : Kv321Neutral.asked1 [[26]] = true) (hI : PyInside.call PyKv321.bound [[26]] = true) : Tells 26 [[26]] := by
  refine ⟨[], [], _, ?_, ⟨rfl, rfl, rfl⟩, rfl, rfl, rfl, ?_⟩
  rotate_left
  · intro l hl
    cases hl
  show [[26]] = [[((26 : Nat) : Int)]]
  rfl
theorem tell_27 {x0 : Int} (h : Kv321Neutral.asked1 [[27, x0]] = true) (hI : PyInside.call PyKv321.bound [[27, x0]] = true) : Tells 27 [[27, x0]] := by
  have h' : (Kv321Neutral.natural x0 32) = true := h
  have h0 := h'
  refine ⟨[x0.toNat], [], _, ?_, ⟨_, rfl, rfl, rfl⟩, rfl, rfl, rfl, ?_⟩
  rotate_left
  · intro l hl
    cases hl
  show [[27, x0]] = [[((27 : Nat) : Int), ((x0.toNat : Nat) : Int)]]
  rw [nat_back h0]
  rfl
theorem tell_28 {x0 : Int} (h : Kv321Neutral.asked1 [[28, x0]] = true) (hI : PyInside.call PyKv321.bound [[28, x0]] = true) : Tells 28 [[28, x0]] := by
  have h' : (Kv321Neutral.natural x0 32) = true := h
  have h0 := h'
  refine ⟨[x0.toNat], [], _, ?_, ⟨_, rfl, rfl, rfl⟩, rfl, rfl, rfl, ?_⟩
  rotate_left
  · intro l hl
    cases hl
  show [[28, x0]] = [[((28 : Nat) : Int), ((x0.toNat : Nat) : Int)]]
  rw [nat_back h0]
  rfl
theorem tell_29 (h : Kv321Neutral.asked1 [[29]] = true) (hI : PyInside.call PyKv321.bound [[29]] = true) : Tells 29 [[29]] := by
  refine ⟨[], [], _, ?_, ⟨rfl, rfl, rfl⟩, rfl, rfl, rfl, ?_⟩
  rotate_left
  · intro l hl
    cases hl
  show [[29]] = [[((29 : Nat) : Int)]]
  rfl
theorem tell_30 (h : Kv321Neutral.asked1 [[30]] = true) (hI : PyInside.call PyKv321.bound [[30]] = true) : Tells 30 [[30]] := by
  refine ⟨[], [], _, ?_, ⟨rfl, rfl, rfl⟩, rfl, rfl, rfl, ?_⟩
  rotate_left
  · intro l hl
    cases hl
  show [[30]] = [[((30 : Nat) : Int)]]
  rfl
theorem len0 {α : Type} {l : List α} (h : l.length = 0) : l = [] := List.length_eq_zero_iff.mp h
theorem len1 {α : Type} {l : List α} (h : l.length = 1) : ∃ a, l = [a] := by
  match l, h with
  | [a], _ => exact ⟨a, rfl⟩
theorem len2 {α : Type} {l : List α} (h : l.length = 2) : ∃ a b, l = [a, b] := by
  match l, h with
  | [a, b], _ => exact ⟨a, b, rfl⟩
theorem len3 {α : Type} {l : List α} (h : l.length = 3) : ∃ a b c, l = [a, b, c] := by
  match l, h with
  | [a, b, c], _ => exact ⟨a, b, c, rfl⟩
theorem len4 {α : Type} {l : List α} (h : l.length = 4) : ∃ a b c d, l = [a, b, c, d] := by
  match l, h with
  | [a, b, c, d], _ => exact ⟨a, b, c, d, rfl⟩
theorem len5 {α : Type} {l : List α} (h : l.length = 5) : ∃ a b c d e, l = [a, b, c, d, e] := by
  match l, h with
  | [a, b, c, d, e], _ => exact ⟨a, b, c, d, e, rfl⟩
theorem tells {p : Int} {a : List Int} {rs : List (List Int)} (hs : PyKv321.shape p = some (a.length, rs.length)) (h : Kv321Neutral.asked1 (PyKv321.whole ((p :: a) :: rs)) = true) (hI : PyInside.call PyKv321.bound ((p :: a) :: rs) = true) : ∃ k, k < 31 ∧ Tells k ((p :: a) :: rs) ∧ PyKv321.whole ((p :: a) :: rs) = (p :: a) :: rs := by
  unfold PyKv321.shape at hs
  by_cases e0 : p = 0
  · rw [if_pos e0] at hs
    have hs1 := congrArg Prod.fst (Option.some.inj hs)
    have hs2 := congrArg Prod.snd (Option.some.inj hs)
    obtain ⟨_, _, rfl⟩ := len2 hs1.symm
    obtain rfl := len0 hs2.symm
    subst e0
    exact ⟨0, by decide, tell_0 h hI, rfl⟩
  rw [if_neg e0] at hs
  by_cases e1 : p = 1
  · rw [if_pos e1] at hs
    have hs1 := congrArg Prod.fst (Option.some.inj hs)
    have hs2 := congrArg Prod.snd (Option.some.inj hs)
    obtain ⟨_, _, _, _, rfl⟩ := len4 hs1.symm
    obtain rfl := len0 hs2.symm
    subst e1
    exact ⟨1, by decide, tell_1 h hI, rfl⟩
  rw [if_neg e1] at hs
  by_cases e2 : p = 2
  · rw [if_pos e2] at hs
    have hs1 := congrArg Prod.fst (Option.some.inj hs)
    have hs2 := congrArg Prod.snd (Option.some.inj hs)
    obtain ⟨_, rfl⟩ := len1 hs1.symm
    obtain ⟨_, rfl⟩ := len1 hs2.symm
    subst e2
    exact ⟨2, by decide, tell_2 h hI, rfl⟩
  rw [if_neg e2] at hs
  by_cases e3 : p = 3
  · rw [if_pos e3] at hs
    have hs1 := congrArg Prod.fst (Option.some.inj hs)
    have hs2 := congrArg Prod.snd (Option.some.inj hs)
    obtain ⟨_, _, _, rfl⟩ := len3 hs1.symm
    obtain rfl := len0 hs2.symm
    subst e3
    exact ⟨3, by decide, tell_3 h hI, rfl⟩
  rw [if_neg e3] at hs
  by_cases e4 : p = 4
  · rw [if_pos e4] at hs
    have hs1 := congrArg Prod.fst (Option.some.inj hs)
    have hs2 := congrArg Prod.snd (Option.some.inj hs)
    obtain ⟨_, _, _, _, _, rfl⟩ := len5 hs1.symm
    obtain ⟨_, rfl⟩ := len1 hs2.symm
    subst e4
    exact ⟨4, by decide, tell_4 h hI, rfl⟩
  rw [if_neg e4] at hs
  by_cases e5 : p = 5
  · rw [if_pos e5] at hs
    have hs1 := congrArg Prod.fst (Option.some.inj hs)
    have hs2 := congrArg Prod.snd (Option.some.inj hs)
    obtain ⟨_, rfl⟩ := len1 hs1.symm
    obtain rfl := len0 hs2.symm
    subst e5
    exact ⟨5, by decide, tell_5 h hI, rfl⟩
  rw [if_neg e5] at hs
  by_cases e6 : p = 6
  · rw [if_pos e6] at hs
    have hs1 := congrArg Prod.fst (Option.some.inj hs)
    have hs2 := congrArg Prod.snd (Option.some.inj hs)
    obtain ⟨_, rfl⟩ := len1 hs1.symm
    obtain rfl := len0 hs2.symm
    subst e6
    exact ⟨6, by decide, tell_6 h hI, rfl⟩
  rw [if_neg e6] at hs
  by_cases e7 : p = 7
  · rw [if_pos e7] at hs
    have hs1 := congrArg Prod.fst (Option.some.inj hs)
    have hs2 := congrArg Prod.snd (Option.some.inj hs)
    obtain ⟨_, rfl⟩ := len1 hs1.symm
    obtain ⟨_, _, rfl⟩ := len2 hs2.symm
    subst e7
    exact ⟨7, by decide, tell_7 h hI, rfl⟩
  rw [if_neg e7] at hs
  by_cases e8 : p = 8
  · rw [if_pos e8] at hs
    have hs1 := congrArg Prod.fst (Option.some.inj hs)
    have hs2 := congrArg Prod.snd (Option.some.inj hs)
    obtain ⟨_, rfl⟩ := len1 hs1.symm
    obtain rfl := len0 hs2.symm
    subst e8
    exact ⟨8, by decide, tell_8 h hI, rfl⟩
  rw [if_neg e8] at hs
  by_cases e9 : p = 9
  · rw [if_pos e9] at hs
    have hs1 := congrArg Prod.fst (Option.some.inj hs)
    have hs2 := congrArg Prod.snd (Option.some.inj hs)
    obtain ⟨_, rfl⟩ := len1 hs1.symm
    obtain rfl := len0 hs2.symm
    subst e9
    exact ⟨9, by decide, tell_9 h hI, rfl⟩
  rw [if_neg e9] at hs
  by_cases e10 : p = 10
  · rw [if_pos e10] at hs
    have hs1 := congrArg Prod.fst (Option.some.inj hs)
    have hs2 := congrArg Prod.snd (Option.some.inj hs)
    obtain ⟨_, _, rfl⟩ := len2 hs1.symm
    obtain rfl := len0 hs2.symm
    subst e10
    exact ⟨10, by decide, tell_10 h hI, rfl⟩
  rw [if_neg e10] at hs
  by_cases e11 : p = 11
  · rw [if_pos e11] at hs
    have hs1 := congrArg Prod.fst (Option.some.inj hs)
    have hs2 := congrArg Prod.snd (Option.some.inj hs)
    obtain ⟨_, _, rfl⟩ := len2 hs1.symm
    obtain rfl := len0 hs2.symm
    subst e11
    exact ⟨11, by decide, tell_11 h hI, rfl⟩
  rw [if_neg e11] at hs
  by_cases e12 : p = 12
  · rw [if_pos e12] at hs
    have hs1 := congrArg Prod.fst (Option.some.inj hs)
    have hs2 := congrArg Prod.snd (Option.some.inj hs)
    obtain ⟨_, rfl⟩ := len1 hs1.symm
    obtain rfl := len0 hs2.symm
    subst e12
    exact ⟨12, by decide, tell_12 h hI, rfl⟩
  rw [if_neg e12] at hs
  by_cases e13 : p = 13
  · rw [if_pos e13] at hs
    have hs1 := congrArg Prod.fst (Option.some.inj hs)
    have hs2 := congrArg Prod.snd (Option.some.inj hs)
    obtain ⟨_, _, _, rfl⟩ := len3 hs1.symm
    obtain ⟨_, rfl⟩ := len1 hs2.symm
    subst e13
    exact ⟨13, by decide, tell_13 h hI, rfl⟩
  rw [if_neg e13] at hs
  by_cases e14 : p = 14
  · rw [if_pos e14] at hs
    have hs1 := congrArg Prod.fst (Option.some.inj hs)
    have hs2 := congrArg Prod.snd (Option.some.inj hs)
    obtain ⟨_, _, _, rfl⟩ := len3 hs1.symm
    obtain ⟨_, rfl⟩ := len1 hs2.symm
    subst e14
    exact ⟨14, by decide, tell_14 h hI, rfl⟩
  rw [if_neg e14] at hs
  by_cases e15 : p = 15
  · rw [if_pos e15] at hs
    have hs1 := congrArg Prod.fst (Option.some.inj hs)
    have hs2 := congrArg Prod.snd (Option.some.inj hs)
    obtain ⟨_, rfl⟩ := len1 hs1.symm
    obtain rfl := len0 hs2.symm
    subst e15
    exact ⟨15, by decide, tell_15 h hI, rfl⟩
  rw [if_neg e15] at hs
  by_cases e16 : p = 16
  · rw [if_pos e16] at hs
    have hs1 := congrArg Prod.fst (Option.some.inj hs)
    have hs2 := congrArg Prod.snd (Option.some.inj hs)
    obtain ⟨_, rfl⟩ := len1 hs1.symm
    obtain rfl := len0 hs2.symm
    subst e16
    exact ⟨16, by decide, tell_16 h hI, rfl⟩
  rw [if_neg e16] at hs
  by_cases e17 : p = 17
  · rw [if_pos e17] at hs
    have hs1 := congrArg Prod.fst (Option.some.inj hs)
    have hs2 := congrArg Prod.snd (Option.some.inj hs)
    obtain ⟨_, _, _, rfl⟩ := len3 hs1.symm
    obtain rfl := len0 hs2.symm
    subst e17
    exact ⟨17, by decide, tell_17 h hI, rfl⟩
  rw [if_neg e17] at hs
  by_cases e18 : p = 18
  · rw [if_pos e18] at hs
    have hs1 := congrArg Prod.fst (Option.some.inj hs)
    have hs2 := congrArg Prod.snd (Option.some.inj hs)
    obtain ⟨_, rfl⟩ := len1 hs1.symm
    obtain ⟨_, rfl⟩ := len1 hs2.symm
    subst e18
    exact ⟨18, by decide, tell_18 h hI, rfl⟩
  rw [if_neg e18] at hs
  by_cases e19 : p = 19
  · rw [if_pos e19] at hs
    have hs1 := congrArg Prod.fst (Option.some.inj hs)
    have hs2 := congrArg Prod.snd (Option.some.inj hs)
    obtain ⟨_, rfl⟩ := len1 hs1.symm
    obtain rfl := len0 hs2.symm
    subst e19
    exact ⟨19, by decide, tell_19 h hI, rfl⟩
  rw [if_neg e19] at hs
  by_cases e20 : p = 20
  · rw [if_pos e20] at hs
    have hs1 := congrArg Prod.fst (Option.some.inj hs)
    have hs2 := congrArg Prod.snd (Option.some.inj hs)
    obtain rfl := len0 hs1.symm
    obtain rfl := len0 hs2.symm
    subst e20
    exact ⟨20, by decide, tell_20 h hI, rfl⟩
  rw [if_neg e20] at hs
  by_cases e21 : p = 21
  · rw [if_pos e21] at hs
    have hs1 := congrArg Prod.fst (Option.some.inj hs)
    have hs2 := congrArg Prod.snd (Option.some.inj hs)
    obtain ⟨_, rfl⟩ := len1 hs1.symm
    obtain rfl := len0 hs2.symm
    subst e21
    exact ⟨21, by decide, tell_21 h hI, rfl⟩
  rw [if_neg e21] at hs
  by_cases e22 : p = 22
  · rw [if_pos e22] at hs
    have hs1 := congrArg Prod.fst (Option.some.inj hs)
    have hs2 := congrArg Prod.snd (Option.some.inj hs)
    obtain rfl := len0 hs1.symm
    obtain rfl := len0 hs2.symm
    subst e22
    exact ⟨22, by decide, tell_22 h hI, rfl⟩
  rw [if_neg e22] at hs
  by_cases e23 : p = 23
  · rw [if_pos e23] at hs
    have hs1 := congrArg Prod.fst (Option.some.inj hs)
    have hs2 := congrArg Prod.snd (Option.some.inj hs)
    obtain ⟨_, rfl⟩ := len1 hs1.symm
    obtain rfl := len0 hs2.symm
    subst e23
    exact ⟨23, by decide, tell_23 h hI, rfl⟩
  rw [if_neg e23] at hs
  by_cases e24 : p = 24
  · rw [if_pos e24] at hs
    have hs1 := congrArg Prod.fst (Option.some.inj hs)
    have hs2 := congrArg Prod.snd (Option.some.inj hs)
    obtain ⟨_, rfl⟩ := len1 hs1.symm
    obtain rfl := len0 hs2.symm
    subst e24
    exact ⟨24, by decide, tell_24 h hI, rfl⟩
  rw [if_neg e24] at hs
  by_cases e25 : p = 25
  · rw [if_pos e25] at hs
    have hs1 := congrArg Prod.fst (Option.some.inj hs)
    have hs2 := congrArg Prod.snd (Option.some.inj hs)
    obtain ⟨_, rfl⟩ := len1 hs1.symm
    obtain rfl := len0 hs2.symm
    subst e25
    exact ⟨25, by decide, tell_25 h hI, rfl⟩
  rw [if_neg e25] at hs
  by_cases e26 : p = 26
  · rw [if_pos e26] at hs
    have hs1 := congrArg Prod.fst (Option.some.inj hs)
    have hs2 := congrArg Prod.snd (Option.some.inj hs)
    obtain rfl := len0 hs1.symm
    obtain rfl := len0 hs2.symm
    subst e26
    exact ⟨26, by decide, tell_26 h hI, rfl⟩
  rw [if_neg e26] at hs
  by_cases e27 : p = 27
  · rw [if_pos e27] at hs
    have hs1 := congrArg Prod.fst (Option.some.inj hs)
    have hs2 := congrArg Prod.snd (Option.some.inj hs)
    obtain ⟨_, rfl⟩ := len1 hs1.symm
    obtain rfl := len0 hs2.symm
    subst e27
    exact ⟨27, by decide, tell_27 h hI, rfl⟩
  rw [if_neg e27] at hs
  by_cases e28 : p = 28
  · rw [if_pos e28] at hs
    have hs1 := congrArg Prod.fst (Option.some.inj hs)
    have hs2 := congrArg Prod.snd (Option.some.inj hs)
    obtain ⟨_, rfl⟩ := len1 hs1.symm
    obtain rfl := len0 hs2.symm
    subst e28
    exact ⟨28, by decide, tell_28 h hI, rfl⟩
  rw [if_neg e28] at hs
  by_cases e29 : p = 29
  · rw [if_pos e29] at hs
    have hs1 := congrArg Prod.fst (Option.some.inj hs)
    have hs2 := congrArg Prod.snd (Option.some.inj hs)
    obtain rfl := len0 hs1.symm
    obtain rfl := len0 hs2.symm
    subst e29
    exact ⟨29, by decide, tell_29 h hI, rfl⟩
  rw [if_neg e29] at hs
  by_cases e30 : p = 30
  · rw [if_pos e30] at hs
    have hs1 := congrArg Prod.fst (Option.some.inj hs)
    have hs2 := congrArg Prod.snd (Option.some.inj hs)
    obtain rfl := len0 hs1.symm
    obtain rfl := len0 hs2.symm
    subst e30
    exact ⟨30, by decide, tell_30 h hI, rfl⟩
  rw [if_neg e30] at hs
  cases hs
end Pl

/-! ### rows, answers -/
namespace Pl
open PySem PySem.Spec PyProof.Rows L2
open Kv321 (Abs Hire Set_ at5 map5 five okDesks okDays rising)
theorem Paired.snoc' {α β : Type} {R : α → β → Prop} : ∀ {xs : List α} {ys : List β} {x : α} {y : β}, Paired R xs ys → R x y → Paired R (xs ++ [x]) (ys ++ [y])
  | [], _, _, _, h, r => by
    cases h
    exact .cons r .nil
  | _ :: _, _, _, _, h, r => by
    cases h with
    | cons h1 h2 => exact .cons h1 (Paired.snoc' h2 r)
theorem putRows_app (xs ys : List (List Int)) : PyFlat.putRows (xs ++ ys) = PyFlat.putRows xs ++ PyFlat.putRows ys := by
  induction xs with
  | nil => rfl
  | cons x xs ih =>
    show PyFlat.putRow x ++ PyFlat.putRows (xs ++ ys) = _
    rw [ih]
    show _ = (PyFlat.putRow x ++ PyFlat.putRows xs) ++ PyFlat.putRows ys
    rw [List.append_assoc]
theorem cut_nat {xs : List V} {i n : Nat} (h : i + n ≤ xs.length) : cutV xs (some (i : Int)) (some ((i + n : Nat) : Int)) = (xs.drop i).take n := by
  unfold cutV
  rw [HT.sIx_nat, HT.sIx_nat, Nat.min_eq_left (by omega), Nat.min_eq_left (by omega)]
  congr 1
  omega
theorem drop_more {α : Type} {l a r : List α} {i : Nat} (h : l.drop i = a ++ r) : l.drop (i + a.length) = r := by
  rw [← List.drop_drop, h]
  exact PyFlat_drop a r
where PyFlat_drop {α : Type} : ∀ (a r : List α), (a ++ r).drop a.length = r
  | [], _ => rfl
  | _ :: a, r => PyFlat_drop a r
theorem take_front {α : Type} : ∀ (a r : List α), (a ++ r).take a.length = a
  | [], r => by simp
  | x :: a, r => by
    show x :: (a ++ r).take a.length = _
    rw [take_front a r]
section
variable {K : PySem.W.Frag} {mg : Str → Option Value} {G H H' : Hp} {A A0 D A' D' : Tag → Addr} {b b' : Bool} {a a0 a' : Abs} {p : Addr}
variable {σ : L2.St} {te ta tb tc td tf tv to : TE} {d : Dsc} {v : V} {DD : Ends} {ts tr tw : TS} {x dx C : Addr} {fs : List (Str × V)} {f : Str} {vs : List V} {Q : VK} {E : XK} {P : Post} {c : Kv321.Call}
theorem el_cut {q : Addr} {xs : List V} {i n : Nat} {te1 te2 : TE} (h : Ev te σ H (dV (.ref q))) (h1 : Ev te1 σ H (dV (.int (i : Nat)))) (h2 : Ev te2 σ H (dV (.int ((i + n : Nat) : Int)))) (hs : SqL K H q xs) (hn : i + n ≤ xs.length) :
    Ev (tSl (rSlL K) te (tPart te1) (tPart te2)) σ H (dN ((xs.drop i).take n)) := fun H1 e Q k =>
  h H1 e _ fun v H2 e2 hv => h1 H2 (e.trans e2) _ fun v1 H3 e3 hv1 => ⟨(i : Nat), hv1, h2 H3 ((e.trans e2).trans e3) _ fun v2 H4 e4 hv2 => ⟨((i + n : Nat) : Int), hv2, by
    have hv' : v = .ref q := hv
    subst hv'
    refine ⟨q, xs, rfl, sqL_up (((e.trans e2).trans e3).trans e4) hs, fun r hr => ?_⟩
    rw [cut_nat hn]
    exact k _ _ (((e2.trans e3).trans e4).trans (Ex.new hr)) ⟨r, rfl, fresh_back ((e2.trans e3).trans e4) hr, upd_same⟩⟩⟩
/-- xs.append(e), lists of any length -/
theorem s_appZ {l : Addr} {xs : List V} (hl : H l = some (.lst xs)) (ha : Ev ta σ H (dV (.ref l))) (h : Ev te σ H d) (hz : xs.length < sizeLine) (k : ∀ v H1, Ex H H1 → d.is H v H1 → DD.nx σ (upd H1 l (.lst (xs ++ [v])))) : tDrop (tBM K "list" rAppend ta (tCons te tNil)) DD σ H :=
  ha H (Ex.refl H) _ fun w H1 e1 hw => by
    subst hw
    exact ⟨Or.inl ⟨rfl, xs, SqL.of (e1 _ _ hl)⟩, h H1 e1 _ fun v H2 e2 hv => ⟨l, xs, v, rfl, rfl, (e1.trans e2) _ _ hl, hz, k v H2 (e1.trans e2) (d.dn e1 hv)⟩⟩
theorem rd_rows_at (T : Txt K mg) (hQ : sp_rows_at K vs H Q E) : Fn (t_rows_at K) N_rows_at vs H Q := by
  obtain ⟨c, xs, at_, rs, rest, rfl, hc, hat, hd, hr2, fin⟩ := hQ
  have hxl : (xs.map V.int).length = xs.length := List.length_map _
  refine cps_asg el_nil fun v H1 e1 ⟨g, h1, h2, h3⟩ => ?_
  subst h1
  have ha : Evl.EvA (tCons (tVar 2) tNil) [some (.ref c), some (.int (at_ : Nat)), some (.int ((rs.length : Nat) : Int)), some (.ref g), none, none] H1 [.int ((rs.length : Nat) : Int)] := Evl.ea_cons (ev_var rfl).e Evl.ea_nil
  have hlen : ∀ k, k ≤ rs.length → at_ + (PyFlat.putRows (rs.take k)).length ≤ xs.length ∧ xs.drop (at_ + (PyFlat.putRows (rs.take k)).length) = PyFlat.putRows (rs.drop k) ++ rest := fun k hk => by
    have e : xs.drop at_ = PyFlat.putRows (rs.take k) ++ (PyFlat.putRows (rs.drop k) ++ rest) := by
      rw [hd]
      conv => lhs; rw [← List.take_append_drop k rs]
      rw [putRows_app, List.append_assoc]
    refine ⟨?_, drop_more e⟩
    have := congrArg List.length e
    rw [List.length_drop, List.length_append] at this
    omega
  refine cps_for (Evl.s_forR1 ha (by omega) (fun k σ' H' => (∃ s4 s5, σ' = [some (.ref c), some (.int ((at_ + (PyFlat.putRows (rs.take k)).length : Nat) : Int)), some (.int ((rs.length : Nat) : Int)), some (.ref g), s4, s5]) ∧ Ex H H' ∧ ∃ ps, H' g = some (.lst (ps.map V.ref)) ∧ Paired (fun (p : Addr) (r : List Int) => (H p = none ∧ p ≠ g) ∧ H' p = some (.lst (r.map V.int))) ps (rs.take k))
    (fun H2 e2 => ⟨⟨_, _, rfl⟩, e1.trans e2, [], e2 _ _ h3, .nil⟩) (fun k σ' H' hk ⟨⟨s4, s5, hσ⟩, e2, ps, hg, hps⟩ => ?_) fun σ' H' ⟨⟨s4, s5, hσ⟩, e2, ps, hg, hps⟩ => ?_)
  · subst hσ
    have hk' : k < rs.length := by omega
    obtain ⟨row, hrow⟩ : ∃ row, rs[k]? = some row := ⟨_, List.getElem?_eq_getElem hk'⟩
    obtain ⟨b1, b2⟩ := hlen k (by omega)
    obtain ⟨b3, b4⟩ := hlen (k + 1) (by omega)
    have edr : rs.drop k = row :: rs.drop (k + 1) := by
      rw [List.drop_eq_getElem_cons hk']
      congr 1
      rw [List.getElem?_eq_getElem hk'] at hrow
      exact Option.some.inj hrow
    have etk : PyFlat.putRows (rs.take (k + 1)) = PyFlat.putRows (rs.take k) ++ ((row.length : Int) :: row) := by
      rw [take_more hrow, putRows_app]
      show _ ++ (PyFlat.putRow row ++ []) = _
      rw [List.append_nil]
      rfl
    rw [etk, List.length_append] at b3
    have b3' : at_ + ((PyFlat.putRows (rs.take k)).length + (row.length + 1)) ≤ xs.length := b3
    rw [edr] at b2
    have b2' : xs.drop (at_ + (PyFlat.putRows (rs.take k)).length) = (row.length : Int) :: (row ++ (PyFlat.putRows (rs.drop (k + 1)) ++ rest)) := by
      rw [b2]
      show (((row.length : Int) :: row) ++ PyFlat.putRows (rs.drop (k + 1))) ++ rest = _
      rw [List.append_assoc]
      rfl
    have b5 : xs.drop (at_ + (PyFlat.putRows (rs.take k)).length + 1) = row ++ (PyFlat.putRows (rs.drop (k + 1)) ++ rest) := drop_more (a := [(row.length : Int)]) b2'
    have hget : atI (xs.map V.int) ((at_ + (PyFlat.putRows (rs.take k)).length : Nat) : Int) = some (.int (row.length : Nat)) := atI_nat (by
      have h9 := congrArg (fun l => l[0]?) b2'
      rw [List.getElem?_map]
      have h10 : xs[at_ + (PyFlat.putRows (rs.take k)).length]? = some (row.length : Int) := by
        have h11 : (xs.drop (at_ + (PyFlat.putRows (rs.take k)).length))[0]? = some (row.length : Int) := h9
        rw [List.getElem?_drop] at h11
        exact h11
      rw [h10]
      rfl)
    refine cps_asg (d := dV (.int ((at_ + (PyFlat.putRows (rs.take k)).length + 1 : Nat) : Int))) ((ev_I (ev_var rfl) ev_c).is (congrArg V.int (by omega))) fun v H3 e3 hv => ?_
    have hv' : v = .int ((at_ + (PyFlat.putRows (rs.take k)).length + 1 : Nat) : Int) := hv
    subst hv'
    have e23 := e2.trans e3
    refine cps_asg (d := dV (.int ((at_ + (PyFlat.putRows (rs.take k)).length + 1 + row.length : Nat) : Int))) ((ev_I (ev_var rfl) (ev_ixL (ev_var rfl) (ev_var rfl) (sqL_up e23 hc) hget)).is (congrArg V.int (by omega))) fun v H4 e4 hv => ?_
    have hv' : v = .int ((at_ + (PyFlat.putRows (rs.take k)).length + 1 + row.length : Nat) : Int) := hv
    subst hv'
    have e24 := e23.trans e4
    refine s_appZ ((e3.trans e4) _ _ hg) (ev_var rfl) (el_cut (i := at_ + (PyFlat.putRows (rs.take k)).length + 1) (n := row.length) (ev_var rfl) (ev_var rfl) (ev_var rfl) (sqL_up e24 hc) (by rw [hxl]; omega)) ?_ fun v H5 e5 ⟨q, i1, i2, i3⟩ => ?_
    · have := Paired.length hps
      rw [List.length_map, this]
      have h3 := List.length_take_le k rs
      have h4 : 100000 ≤ sizeLine := by decide
      omega
    · subst i1
      rw [← List.map_drop, ← List.map_take, b5, take_front] at i3
      have gq : q ≠ g := fun z => by
        have h9 := (e3.trans e4) _ _ hg
        rw [← z, i2] at h9
        cases h9
      have hq0 : H q = none := fresh_back e24 i2
      refine ⟨⟨some (.int (k : Nat)), some (.int ((at_ + (PyFlat.putRows (rs.take k)).length + 1 : Nat) : Int)), ?_⟩, Ex.mut (e24.trans e5) h2, ps ++ [q], ?_, ?_⟩
      · rw [etk, List.length_append]
        refine congrArg (fun (z : Int) => ([some (V.ref c), some (V.int z), some (V.int ((rs.length : Nat) : Int)), some (V.ref g), some (V.int (k : Nat)), some (V.int ((at_ + (PyFlat.putRows (rs.take k)).length + 1 : Nat) : Int))] : L2.St)) ?_
        show ((at_ + (PyFlat.putRows (rs.take k)).length + 1 + row.length : Nat) : Int) = ((at_ + ((PyFlat.putRows (rs.take k)).length + (row.length + 1)) : Nat) : Int)
        omega
      · rw [upd_same, List.map_append]
        rfl
      · rw [take_more hrow]
        refine Paired.snoc' (Paired.mapP hps fun p r ⟨j1, j2⟩ => ⟨j1, ?_⟩) ⟨⟨hq0, gq⟩, ?_⟩
        · rw [upd_ne j1.2]
          exact e5 _ _ ((e3.trans e4) _ _ j2)
        · rw [upd_ne gq]
          exact i3
  · subst hσ
    dsimp only
    have hT : rs.take rs.length = rs := List.take_length
    have ek : (((rs.length : Nat) : Int)).toNat = rs.length := Int.toNat_natCast _
    rw [ek, hT] at hps ⊢
    obtain ⟨b1, b2⟩ := hlen rs.length (Nat.le_refl _)
    rw [hT] at b1 b2
    refine cps_ret (eu_tup (vs := [.ref g, .int ((xs.length - rest.length : Nat) : Int)]) (ea_cons (ev_var rfl) (ea_cons ((ev_var rfl).is (congrArg V.int ?_)) ea_nil)) (by show 2 ≤ 100000; decide)) fun v H3 e3 ⟨T', i1, i2⟩ => ?_
    · have := congrArg List.length b2
      rw [List.length_drop, List.drop_length] at this
      have h9 : xs.length - (at_ + (PyFlat.putRows rs).length) = rest.length := this
      omega
    · subst i1
      exact fin T' g ps H3 (e2.trans e3) i2 h2 (e3 _ _ hg) (Paired.mapP hps fun p r ⟨j1, j2⟩ => ⟨j1.1, e3 _ _ j2⟩)
end
end Pl

/-! ### one answer, all answers -/
namespace Pl
open PySem PySem.Spec PyProof.Rows L2
open Kv321 (Abs Hire Set_ at5 map5 five okDesks okDays rising)
theorem act_does {b : Bool} {a : Abs} {c : Kv321.Call} (h : b = true ∨ ∃ t f, c = .begin_ t f) : Kv321.act (stO b a) c = (stO (nb b c) (a.does c).1, (a.does c).2) := by
  cases b with
  | true =>
    show Kv321.act (some a) c = (stO (true || begins c) (a.does c).1, _)
    rw [Bool.true_or]
    cases c <;> rfl
  | false =>
    rcases h with h | ⟨t, f, rfl⟩
    · cases h
    · show Kv321.act none (.begin_ t f) = (stO (false || (decide (t ≤ 14) && decide (f ≤ 1000))) (a.does (.begin_ t f)).1, _)
      by_cases hc : 14 < t ∨ 1000 < f
      · have e1 : a.does (.begin_ t f) = (a, Kv321.say (-22)) := if_pos hc
        have e2 : (Kv321.begun 0 0).does (.begin_ t f) = (Kv321.begun 0 0, Kv321.say (-22)) := if_pos hc
        have e3 : (decide (t ≤ 14) && decide (f ≤ 1000)) = false := by
          rcases hc with z | z
          · rw [decide_eq_false (by omega), Bool.false_and]
          · rw [decide_eq_false (show ¬ f ≤ 1000 by omega), Bool.and_false]
        unfold Kv321.act
        dsimp only
        rw [e1, e2, e3]
        rfl
      · have e1 : a.does (.begin_ t f) = (Kv321.begun t f, Kv321.say 0) := if_neg hc
        have e2 : (Kv321.begun 0 0).does (.begin_ t f) = (Kv321.begun t f, Kv321.say 0) := if_neg hc
        have e3 : (decide (t ≤ 14) && decide (f ≤ 1000)) = true := by
          rw [decide_eq_true (show t ≤ 14 by omega), decide_eq_true (show f ≤ 1000 by omega)]
          rfl
        unfold Kv321.act
        dsimp only
        rw [e1, e2, e3]
        rfl
theorem act_none {a : Abs} {c : Kv321.Call} (h : ∀ t f, c ≠ .begin_ t f) : Kv321.act (stO false a) c = (none, Kv321.say (-11)) := by
  cases c with
  | begin_ t f => exact absurd rfl (h t f)
  | _ => rfl
section
variable {K : PySem.W.Frag} {mg : Str → Option Value} {G H H' : Hp} {A A0 D A' D' : Tag → Addr} {b b' : Bool} {a a0 a' : Abs} {p : Addr}
variable {σ : L2.St} {te ta tb tc td tf tv to : TE} {d : Dsc} {v : V} {DD : Ends} {ts tr tw : TS} {x dx C : Addr} {fs : List (Str × V)} {f : Str} {vs : List V} {Q : VK} {E : XK} {P : Post} {c : Kv321.Call}
theorem Ask.up {pn pl : Addr} {ps : List Addr} {ns : List Nat} {ls : List (List Nat)} (q : Ask H A a pn pl ps ns ls) (e : Ex H H') : Ask H' A a pn pl ps ns ls :=
  ⟨e _ _ q.hn, q.on, e _ _ q.hl, q.ol, Paired.mapP q.rw fun p l ⟨h1, h2, h3⟩ => ⟨e _ _ h1, h2, h3⟩⟩
theorem rd_answer_to (T : Txt K mg) (hQ : sp_answer_to K vs H Q E) : Fn (t_answer_to K) N_answer_to vs H Q := by
  obtain ⟨A, D, b, a, k, c, pn, pl, ps, ns, ls, rfl, R, W, Qa, hk, hm, fin⟩ := hQ
  have hbe : ∀ t f, c = .begin_ t f → k = 0 := fun t f e => by
    have h := mk_code k hm
    rw [e] at h
    exact h.symm
  refine cps_if (et_and (b := !b) (et_test (ev_ne (i := (k : Int)) (ev_var rfl) ev_c)) fun _ => et_not (et_B (ev_fld (ev_var rfl) (R.is_begun T)))) (fun hb H1 e1 => ?_) fun hb H1 e1 => ?_
  · rw [Bool.and_eq_true, Bool.not_eq_true', Bool.not_eq_true'] at hb
    have hk0 := of_decide_eq_false hb.1
    have hb' := hb.2
    subst hb'
    refine cps_ret (el_lst1 ev_c) fun v H2 e2 ⟨p, h1, h2, h3⟩ => ?_
    subst h1
    have ha : Kv321.act (stO false a) c = (none, Kv321.say (-11)) := act_none fun t f e => hk0 (by rw [hbe t f e]; rfl)
    exact fin A D false a p H2 (R.up (e1.trans e2)) W rfl (Stp.refl.ex (e1.trans e2)) (fresh_back e1 h2) (by rw [ha]; rfl) (by rw [ha]; exact h3)
  · have hc : b = true ∨ ∃ t f, c = .begin_ t f := by
      rcases Bool.and_eq_false_iff.mp hb with z | z
      · rw [Bool.not_eq_false'] at z
        have hk0 := of_decide_eq_true z
        have hk1 : k = 0 := by omega
        subst hk1
        obtain ⟨t, f, _, _, h⟩ := hm
        exact Or.inr ⟨t, f, h⟩
      · rw [Bool.not_eq_false'] at z
        exact Or.inl z
    have ha := act_does (b := b) (a := a) (c := c) hc
    obtain ⟨x, hx⟩ := deed_at k hk
    refine cps_asg (ev_ixT (i := (k : Int)) (v := .ref (He.ga K x)) ev_c (ev_var rfl) (T.t_DEEDS H1) (atI_nat (by rw [List.getElem?_map, hx]; rfl))) fun v H2 e2 hv => ?_
    have hv' : v = .ref (He.ga K x) := hv
    subst hv'
    have e12 := e1.trans e2
    show tRet _ _ _ H2
    refine ⟨He.ga K x, spDeed K k, rfl, ⟨k, x, hx, rfl, rfl⟩, (ea_cons (ev_var (v := .ref (A .lib)) rfl) (ea_cons (ev_var (v := .ref pn) rfl) (ea_cons (ev_var (v := .ref pl) rfl) ea_nil))) H2 (Ex.refl H2) _ fun vs H3 e3 hvs => ?_⟩
    have evs : vs = [.ref (A .lib), .ref pn, .ref pl] := Iss.vals (ws := [.ref (A .lib), .ref pn, .ref pl]) hvs
    subst evs
    have e13 := e12.trans e3
    refine ⟨A, D, b, a, c, pn, pl, ps, ns, ls, rfl, R.up e13, W, Qa.up e13, hm, fun v H4 ⟨A', D', p, h1, h2, h3, h4, h5, h6⟩ => ?_⟩
    subst h1
    exact fin A' D' (nb b c) (a.does c).1 p H4 h4 (Wf_does W c) h5 ((Stp.refl.ex e13).trans h6) (fresh_back e13 h2) (by rw [ha]) (by rw [ha]; exact h3)
end
end Pl

/-! ### all answers -/
namespace Pl
open PySem PySem.Spec PyProof.Rows L2
open Kv321 (Abs Hire Set_ at5 map5 five okDesks okDays rising)
theorem put_app (xs ys : List (List (List Int))) : PyFlat.put (xs ++ ys) = PyFlat.put xs ++ PyFlat.put ys := by
  induction xs with
  | nil => rfl
  | cons x xs ih =>
    show PyFlat.put1 x ++ PyFlat.put (xs ++ ys) = (PyFlat.put1 x ++ PyFlat.put xs) ++ PyFlat.put ys
    rw [ih, List.append_assoc]
abbrev stp1 (s : Kv321.State) (c : List (List Int)) : Kv321.State := (Kv321Neutral.step s c).1
theorem played_app (s : Kv321.State) (l m : List (List (List Int))) : PyFlat.played Kv321Neutral.step s (l ++ m) = PyFlat.played Kv321Neutral.step s l ++ PyFlat.played Kv321Neutral.step (l.foldl stp1 s) m := by
  induction l generalizing s with
  | nil => rfl
  | cons c l ih =>
    show (Kv321Neutral.step s c).2 :: PyFlat.played Kv321Neutral.step (Kv321Neutral.step s c).1 (l ++ m) = _
    rw [ih]
    rfl
theorem told_app (l m : List (List Int)) : PyFlat.told (l ++ m) = PyFlat.told l ++ PyFlat.told m := by
  unfold PyFlat.told
  exact List.flatMap_append
/-- what answers_asked says, undone -/
theorem asked_undone {xs : List Int} (h : PyKv321.answers_asked xs = true) : ∃ raw, xs = PyFlat.put raw ∧ (∀ c ∈ raw, PyFlat.okCall PyKv321.shape c ∧ Kv321Neutral.asked1 (PyKv321.whole c) = true ∧ PyInside.call PyKv321.bound c = true) ∧
    PyKv321.answers xs = PyFlat.told (PyFlat.played Kv321Neutral.step Kv321Neutral.start (raw.map PyKv321.whole)) ∧ (PyKv321.answers xs).length ≤ 10000000 := by
  unfold PyKv321.answers_asked at h
  cases hr : PyFlat.calls PyKv321.shape xs.length xs with
  | none =>
    rw [hr] at h
    cases h
  | some raw =>
    rw [hr] at h
    dsimp only at h
    rw [Bool.and_eq_true, Bool.and_eq_true, Bool.and_eq_true, Bool.and_eq_true] at h
    obtain ⟨⟨⟨⟨h1, h2⟩, h3⟩, h4⟩, h5⟩ := h
    obtain ⟨p1, p2⟩ := PyFlat.put_calls _ _ _ hr
    refine ⟨raw, p1, fun c hc => ⟨p2 c hc, ?_, List.all_eq_true.mp h3 c hc⟩, ?_, of_decide_eq_true h5⟩
    · unfold Kv321Neutral.asked at h4
      have q := List.all_eq_true.mp (Bool.and_eq_true_iff.mp h4).2 (PyKv321.whole c) (List.mem_map.mpr ⟨c, hc, rfl⟩)
      unfold Kv321Neutral.askedOne at q
      rw [Bool.and_eq_true, Bool.and_eq_true, Bool.and_eq_true] at q
      exact q.1.1.1
    · unfold PyKv321.answers PyKv321.calls
      rw [hr]
theorem rows_le {k : Nat} {n : Int} (h : tb_ROWS[k]? = some (.int n)) : n ≤ 2 := by
  have h1 : tb_ROWS.all (fun v => match v with
    | .int i => decide (i ≤ 2)
    | _ => true) = true := by rfl
  have := List.all_eq_true.mp h1 _ (List.mem_of_getElem? h)
  exact of_decide_eq_true this
theorem ansL_row (x : Kv321.Ans) : ansL x = (Kv321Neutral.row x).map V.int := rfl
section
variable {K : PySem.W.Frag} {mg : Str → Option Value} {G H H' : Hp} {A A0 D A' D' : Tag → Addr} {b b' : Bool} {a a0 a' : Abs} {p : Addr}
variable {σ : L2.St} {te ta tb tc td tf tv to : TE} {d : Dsc} {v : V} {DD : Ends} {ts tr tw : TS} {x dx C : Addr} {fs : List (Str × V)} {f : Str} {vs : List V} {Q : VK} {E : XK} {P : Post} {c : Kv321.Call} {o : HO}
theorem Rep.loc (R : Rep K H A D b a) (hx : ¬ Own A a x) : Rep K (upd H x o) A D b a :=
  ⟨fun t ht => by
    rw [upd_ne (fun z => hx ⟨t, ht, z⟩)]
    exact R.at_ t ht, R.inj⟩
/-- x = f(..), a, b = f(..) -/
theorem cps_callG {sp : Sp} {ws : List V} {t : TA} {g : TG} (ha : EvA t σ H (ws.map dV)) (k : ∀ H1, Ex H H1 → sp ws H1 (fun v H2 => g v σ H2 fun σ2 H3 => tw DD σ2 H3) E0) : tSeq (tAsg (tCall sp [] E0 t) g) tw DD σ H := ha H (Ex.refl H) _ fun vs H1 e hv => by
  have h := k H1 e
  rw [Iss.vals hv]
  rw [← List.append_nil ws] at h
  exact h
theorem tg_pairT {m m' : Nat} {T : Addr} {x y : V} {Q : L2.St → Hp → Prop} (h : H T = some (.tup [x, y])) (q : Q ((σ.set m (some x)).set m' (some y)) H) : gTup K 2 (gCons (gName m) (gCons (gName m') gNil)) (.ref T) σ H Q :=
  ⟨T, [x, y], rfl, SqT.of h, rfl, x, [y], rfl, y, [], rfl, rfl, q⟩
theorem paired_ask {ps : List Addr} {ls : List (List Nat)} (h : Paired (fun (p : Addr) (r : List Int) => G p = none ∧ H p = some (.lst (r.map V.int))) ps (ls.map fun l => l.map fun (n : Nat) => (n : Int))) (hn : ∀ p, G p = none → ¬ Own A a p) (hl : ∀ l ∈ ls, l.length ≤ 1000) :
    Paired (fun (p : Addr) (l : List Nat) => H p = some (.lst (vns l)) ∧ ¬ Own A a p ∧ l.length ≤ 1000) ps ls := by
  induction ls generalizing ps with
  | nil =>
    cases h
    exact .nil
  | cons l ls ih =>
    cases h with
    | cons h1 h2 => exact .cons ⟨h1.2, hn _ h1.1, hl l List.mem_cons_self⟩ (ih h2 fun m hm => hl m (List.mem_cons_of_mem _ hm))
theorem rd_answers (T : Txt K mg) (hQ : sp_answers K vs H Q E) : Fn (t_answers K) N_answers vs H Q := by
  obtain ⟨c, xs, rfl, hc, hask, fin⟩ := hQ
  obtain ⟨raw, hput, hraw, hans, hshort⟩ := asked_undone hask
  have hdec : ∀ cc ∈ raw, ∃ k, k < 31 ∧ Tells k cc ∧ PyKv321.whole cc = cc := fun cc hcc => by
    obtain ⟨⟨p, a, rs, e, hs⟩, h1, h2⟩ := hraw cc hcc
    subst e
    exact tells hs h1 h2
  have hwh : raw.map PyKv321.whole = raw := by
    conv => rhs; rw [← List.map_id raw]
    exact List.map_congr_left fun cc hcc => (hdec cc hcc).choose_spec.2.2
  rw [hwh] at hans
  have hxl : (xs.map V.int).length = xs.length := List.length_map _
  let st : Nat → Kv321.State := fun i => (raw.take i).foldl stp1 Kv321Neutral.start
  let tld : Nat → List Int := fun i => PyFlat.told (PyFlat.played Kv321Neutral.step Kv321Neutral.start (raw.take i))
  have htl : ∀ i, (tld i).length ≤ 10000000 := fun i => by
    have e : PyKv321.answers xs = tld i ++ PyFlat.told (PyFlat.played Kv321Neutral.step (st i) (raw.drop i)) := by
      rw [hans]
      conv => lhs; rw [← List.take_append_drop i raw]
      rw [played_app, told_app]
    rw [e, List.length_append] at hshort
    omega
  have hsz : 10000000 < sizeLine := by decide
  let at_ : Nat → Nat := fun i => (PyFlat.put (raw.take i)).length
  have hat : ∀ i, xs.drop (at_ i) = PyFlat.put (raw.drop i) ∧ at_ i + (PyFlat.put (raw.drop i)).length = xs.length := fun i => by
    have e : xs = PyFlat.put (raw.take i) ++ PyFlat.put (raw.drop i) := by
      rw [hput]
      conv => lhs; rw [← List.take_append_drop i raw]
      rw [put_app]
    refine ⟨?_, ?_⟩
    · have h9 : xs.drop 0 = PyFlat.put (raw.take i) ++ PyFlat.put (raw.drop i) := e
      have := drop_more h9
      rw [Nat.zero_add] at this
      exact this
    · have := congrArg List.length e
      rw [List.length_append] at this
      exact this.symm
  refine cps_asg ev_make_Library fun v H1 e1 ⟨x, dx, w, k, h, h1, ⟨f1, f2, f3, f4⟩, n, g1, g2, g3, g4⟩ => ?_
  subst h1
  have R1 : Rep K H1 (libT x w k h) (fun _ => dx) false (Kv321.begun 0 0) := rep_none rfl rfl rfl g1 g2 g3 g4 n
  have hown1 : ∀ q, Own (libT x w k h) (Kv321.begun 0 0) q → H q = none := fun q ⟨t, ht, e⟩ => by
    rw [← e]
    cases t with
    | lib => exact f1
    | works => exact f2
    | kits => exact f3
    | hirs => exact f4
    | _ => exact (Nat.not_lt_zero _ ht).elim
  refine cps_asg el_nil fun v H2 e2 ⟨g, h1, i2, i3⟩ => ?_
  subst h1
  have hg0 : H g = none := fresh_back e1 i2
  have ng : ¬ Own (libT x w k h) (Kv321.begun 0 0) g := fun z => R1.some z i2
  refine cps_asg (d := dV (.int ((at_ 0 : Nat) : Int))) (ev_c.is rfl) fun v H3 e3 hv => ?_
  have hv' : v = .int ((at_ 0 : Nat) : Int) := hv
  subst hv'
  refine cps_seq ?_
  refine Evl.s_while (fun m σ' H' => ∃ i s4 s5 s6 s7 s8 A D b a, m = raw.length - i ∧ i ≤ raw.length ∧ σ' = [some (.ref c), some (.ref (A .lib)), some (.ref g), some (.int ((at_ i : Nat) : Int)), s4, s5, s6, s7, s8] ∧ Ex H H' ∧ Rep K H' A D b a ∧ Wf a ∧ (∀ q, Own A a q → H q = none) ∧ ¬ Own A a g ∧ stO b a = st i ∧ H' g = some (.lst ((tld i).map V.int))) raw.length
    ⟨0, none, none, none, none, none, libT x w k h, fun _ => dx, false, Kv321.begun 0 0, rfl, Nat.zero_le _, rfl, (e1.trans e2).trans e3, R1.up (e2.trans e3), Wf.begun (by decide) (by decide), hown1, ng, rfl, e3 _ _ i3⟩ (fun m σ' H' hw => ?_)
  obtain ⟨i, s4, s5, s6, s7, s8, A, D, b, a, rfl, hi, rfl, eH, R, W, hown, ngo, hst, hgl⟩ := hw
  have hcH := sqL_up eH hc
  obtain ⟨hd, hlen⟩ := hat i
  refine ⟨decide (i < raw.length), EvT.is (et_test (ev_I (i := ((at_ i : Nat) : Int)) (ev_var rfl) (ev_len (xs := xs.map V.int) (ev_var rfl) hcH))) ?_, fun hb H1 e1 => ?_, fun hb H1 e1 => ?_⟩
  · rw [hxl]
    refine decide_eq_decide.mpr ?_
    constructor
    · intro z
      by_cases h9 : i < raw.length
      · exact h9
      · have : raw.drop i = [] := List.drop_eq_nil_of_le (by omega)
        rw [this] at hlen
        have h10 : at_ i + 0 = xs.length := hlen
        omega
    · intro z
      have : 0 < (PyFlat.put (raw.drop i)).length := by
        rw [List.drop_eq_getElem_cons z]
        obtain ⟨⟨p, a, rs, e, hs⟩, _, _⟩ := hraw raw[i] (List.getElem_mem z)
        rw [e]
        show 0 < (((p :: a) ++ PyFlat.putRows rs) ++ PyFlat.put (raw.drop (i + 1))).length
        rw [List.length_append, List.length_append, List.length_cons]
        omega
      omega
  · have hil := of_decide_eq_true hb
    obtain ⟨cc, hcc⟩ : ∃ cc, raw[i]? = some cc := ⟨_, List.getElem?_eq_getElem hil⟩
    have hcm := List.mem_of_getElem? hcc
    obtain ⟨kk, hk, ⟨ns, ls, cl, ecc, hmk, hcall, hpl, hrw, hlr⟩, _⟩ := hdec cc hcm
    let rs : List (List Int) := ls.map fun l => l.map fun (n : Nat) => (n : Int)
    have edr : raw.drop i = cc :: raw.drop (i + 1) := by
      rw [List.drop_eq_getElem_cons hil]
      congr 1
      rw [List.getElem?_eq_getElem hil] at hcc
      exact Option.some.inj hcc
    have d0 : xs.drop (at_ i) = ((kk : Int) :: ns.map fun (n : Nat) => (n : Int)) ++ (PyFlat.putRows rs ++ PyFlat.put (raw.drop (i + 1))) := by
      rw [hd, edr, ecc]
      show (_ ++ PyFlat.putRows rs) ++ _ = _
      rw [List.append_assoc]
    have d1 : xs.drop (at_ i + 1) = (ns.map fun (n : Nat) => (n : Int)) ++ (PyFlat.putRows rs ++ PyFlat.put (raw.drop (i + 1))) := drop_more (a := [(kk : Int)]) d0
    have d2 : xs.drop (at_ i + 1 + ns.length) = PyFlat.putRows rs ++ PyFlat.put (raw.drop (i + 1)) := by
      have := drop_more d1
      rw [List.length_map] at this
      exact this
    have hsum : at_ i + (1 + ns.length) ≤ xs.length := by
      have := congrArg List.length d0
      rw [List.length_drop, List.length_append, List.length_cons, List.length_map] at this
      omega
    have hnext : at_ (i + 1) = xs.length - (PyFlat.put (raw.drop (i + 1))).length := by
      have := (hat (i + 1)).2
      omega
    have hget : atI (xs.map V.int) ((at_ i : Nat) : Int) = some (.int (kk : Nat)) := atI_nat (by
      rw [List.getElem?_map]
      have h10 : xs[at_ i]? = some (kk : Int) := by
        have h11 : (xs.drop (at_ i))[0]? = some (kk : Int) := by rw [d0]; rfl
        rw [List.getElem?_drop] at h11
        exact h11
      rw [h10]
      rfl)
    have eH1 := eH.trans e1
    refine ⟨fun σ2 H2 => ∃ s4 s5 s6 s7 s8 A D b a, σ2 = [some (.ref c), some (.ref (A .lib)), some (.ref g), some (.int ((at_ (i + 1) : Nat) : Int)), s4, s5, s6, s7, s8] ∧ Ex H H2 ∧ Rep K H2 A D b a ∧ Wf a ∧ (∀ q, Own A a q → H q = none) ∧ ¬ Own A a g ∧ stO b a = st (i + 1) ∧ H2 g = some (.lst ((tld (i + 1)).map V.int)),
      fun σ2 H2 ⟨s4, s5, s6, s7, s8, A, D, b, a, q1, q2, q3, q4, q5, q6, q7, q8⟩ => ⟨raw.length - (i + 1), by omega, i + 1, s4, s5, s6, s7, s8, A, D, b, a, rfl, hil, q1, q2, q3, q4, q5, q6, q7, q8⟩, ?_⟩
    refine cps_asg (ev_ixL (i := ((at_ i : Nat) : Int)) (ev_var rfl) (ev_var rfl) (sqL_up eH1 hc) hget) fun v H2 e2 hv => ?_
    have hv' : v = .int (kk : Nat) := hv
    subst hv'
    refine cps_asg (d := dV (.int ((at_ i + 1 + ns.length : Nat) : Int))) ((ev_I (ev_I (i := ((at_ i : Nat) : Int)) (ev_var rfl) ev_c) (ev_ixT (i := (kk : Int)) ev_c (ev_var rfl) (T.t_PLAIN H2) (atI_nat (by rw [List.getElem?_map, hpl]; rfl)))).is (congrArg V.int (by omega))) fun v H3 e3 hv => ?_
    have hv' : v = .int ((at_ i + 1 + ns.length : Nat) : Int) := hv
    subst hv'
    have eH3 := (eH1.trans e2).trans e3
    refine cps_asg (el_cut (i := at_ i + 1) (n := ns.length) (ev_var rfl) ((ev_I (i := ((at_ i : Nat) : Int)) (ev_var rfl) ev_c).is (congrArg V.int (by omega))) (ev_var rfl) (sqL_up eH3 hc) (by rw [hxl]; omega)) fun v H4 e4 ⟨pn, h1, i2, i3⟩ => ?_
    subst h1
    have enum : ((xs.map V.int).drop (at_ i + 1)).take ns.length = vns ns := by
      rw [← List.map_drop, ← List.map_take, d1]
      have := take_front (ns.map fun (n : Nat) => (n : Int)) (PyFlat.putRows rs ++ PyFlat.put (raw.drop (i + 1)))
      rw [List.length_map] at this
      rw [this]
      rfl
    rw [enum] at i3
    have eH4 := eH3.trans e4
    have e14 := ((e1.trans e2).trans e3).trans e4
    have erl : ((ls.length : Nat) : Int) = ((rs.length : Nat) : Int) := by
      show _ = (((ls.map _).length : Nat) : Int)
      rw [List.length_map]
    refine cps_callG (ws := [.ref c, .int ((at_ i + 1 + ns.length : Nat) : Int), .int ((rs.length : Nat) : Int)]) (ea_cons (ev_var rfl) (ea_cons (ev_var rfl) (ea_cons ((ev_ixT (i := (kk : Int)) ev_c (ev_var rfl) (T.t_ROWS H4) (atI_nat (by rw [List.getElem?_map, hrw]; rfl))).is (congrArg V.int erl)) ea_nil))) fun H5 e5 => ?_
    have hls2 : rs.length ≤ 2 := by
      have h9 := rows_le hrw
      omega
    refine ⟨c, xs, at_ i + 1 + ns.length, rs, PyFlat.put (raw.drop (i + 1)), rfl, sqL_up (eH4.trans e5) hc, by omega, d2, hls2, fun TT pl ps H6 e6 hT hpl0 hpll hps => ?_⟩
    refine tg_pairT hT ?_
    have e16 := (e14.trans e5).trans e6
    have eH6 := (eH4.trans e5).trans e6
    have R6 := R.up e16
    have R3 := R.up ((e1.trans e2).trans e3)
    have R5 := R.up (e14.trans e5)
    have hask : Ask H6 A a pn pl ps ns ls := ⟨(e5.trans e6) _ _ i3, fun z => R3.some z i2, hpll, fun z => R5.some z hpl0, paired_ask hps (fun p hp z => R5.some z hp) hlr⟩
    refine cps_callG (ws := [.ref (A .lib), .int (kk : Nat), .ref pn, .ref pl]) (ea_cons (ev_var rfl) (ea_cons (ev_var rfl) (ea_cons (ev_var rfl) (ea_cons (ev_var rfl) ea_nil)))) fun H7 e7 => ?_
    have eH7 := eH6.trans e7
    have e17 := e16.trans e7
    refine ⟨A, D, b, a, kk, cl, pn, pl, ps, ns, ls, rfl, R6.up e7, W, hask.up e7, hk, hmk, fun A' D' b' a' p H8 R8 W8 hl8 S8 hp0 hact hpv => ?_⟩
    have ngH : ∀ o, H g = some o → False := fun o z => by
      rw [hg0] at z
      cases z
    have eH8 : Ex H H8 := fun q o hq => S8.keep q o (eH7 _ _ hq) fun z => by
      rw [hown q z] at hq
      cases hq
    have hown8 : ∀ q, Own A' a' q → H q = none := fun q z => by
      rcases S8.own q z with z | z
      · exact hown q z
      · exact fresh_back eH7 z
    have hg7 := e17 _ _ hgl
    have ng8 : ¬ Own A' a' g := fun z => by
      rcases S8.own g z with z | z
      · exact ngo z
      · rw [hg7] at z
        cases z
    have hg8 := S8.keep g _ hg7 ngo
    have gp : p ≠ g := fun z => by
      rw [z, hg7] at hp0
      cases hp0
    have hstep : Kv321Neutral.step (st i) cc = ((Kv321.act (st i) cl).1, Kv321Neutral.row (Kv321.act (st i) cl).2) := by
      unfold Kv321Neutral.step
      rw [hcall]
    have hst1 : st (i + 1) = (Kv321.act (st i) cl).1 := by
      show (raw.take (i + 1)).foldl stp1 _ = _
      rw [take_more hcc, List.foldl_append]
      show (Kv321Neutral.step (st i) cc).1 = _
      rw [hstep]
    have htld1 : tld (i + 1) = tld i ++ (((Kv321Neutral.row (Kv321.act (st i) cl).2).length : Int) :: Kv321Neutral.row (Kv321.act (st i) cl).2) := by
      show PyFlat.told (PyFlat.played _ _ (raw.take (i + 1))) = _
      rw [take_more hcc, played_app, told_app]
      show _ ++ PyFlat.told [(Kv321Neutral.step (st i) cc).2] = _
      rw [hstep]
      show _ ++ (((_ : Int) :: _) ++ []) = _
      rw [List.append_nil]
    rw [hst] at hact hpv
    have hpv' : H8 p = some (.lst ((Kv321Neutral.row (Kv321.act (st i) cl).2).map V.int)) := hpv
    have hb1 := htl (i + 1)
    rw [htld1, List.length_append, List.length_cons] at hb1
    show tSeq _ _ _ _ H8
    refine cps_seq ?_
    refine s_appZ (d := dV (.int ((Kv321Neutral.row (Kv321.act (st i) cl).2).length : Nat))) hg8 (ev_var rfl) ((ev_lenD ((ev_var (v := .ref p) rfl).asL hpv')).is (congrArg V.int (by rw [List.length_map]))) (by rw [List.length_map]; omega) fun v H9 e9 hv => ?_
    have hv' : v = .int ((Kv321Neutral.row (Kv321.act (st i) cl).2).length : Nat) := hv
    subst hv'
    have hg9 := upd_same (H := H9) (a := g) (o := HO.lst ((tld i).map V.int ++ [.int ((Kv321Neutral.row (Kv321.act (st i) cl).2).length : Nat)]))
    have hp9 : upd H9 g (HO.lst ((tld i).map V.int ++ [.int ((Kv321Neutral.row (Kv321.act (st i) cl).2).length : Nat)])) p = some (.lst ((Kv321Neutral.row (Kv321.act (st i) cl).2).map V.int)) := by
      rw [upd_ne gp]
      exact e9 _ _ hpv'
    have R9 := (R8.up e9).loc (o := HO.lst ((tld i).map V.int ++ [.int ((Kv321Neutral.row (Kv321.act (st i) cl).2).length : Nat)])) ng8
    have eH9 : Ex H (upd H9 g (HO.lst ((tld i).map V.int ++ [.int ((Kv321Neutral.row (Kv321.act (st i) cl).2).length : Nat)]))) := Ex.mut (eH8.trans e9) hg0
    dsimp only
    refine s_ext hg9 (ev_var rfl) ((ev_var (v := .ref p) rfl).asL hp9) (by rw [List.length_append, List.length_map, List.length_map]; show _ + 1 + _ ≤ _; omega) fun H10 e10 => ?_
    refine ⟨some (.int (kk : Nat)), some (.int ((at_ i + 1 + ns.length : Nat) : Int)), some (.ref pn), some (.ref pl), some (.ref p), A', D', b', a', ?_, Ex.mut (eH9.trans e10) hg0, (R9.up e10).loc ng8, W8, hown8, ng8, by rw [hst1]; exact hact.symm, ?_⟩
    · rw [hnext, hl8]
      rfl
    · rw [upd_same, htld1, List.map_append, List.append_assoc]
      rfl
  · have hil : i = raw.length := by
      have := of_decide_eq_false hb
      omega
    subst hil
    show tRet (tVar 2) _ _ H1
    have eT : tld raw.length = PyKv321.answers xs := by
      rw [hans]
      show PyFlat.told (PyFlat.played _ _ (raw.take raw.length)) = _
      rw [List.take_length]
    refine cps_ret (ev_var (v := .ref g) rfl) fun v H2 e2 hv => ?_
    have hv' : v = .ref g := hv
    subst hv'
    refine fin g H2 ?_
    rw [← eT]
    exact (e1.trans e2) _ _ hgl
end
end Pl

namespace Pl
open PySem PySem.Spec PyProof.Rows L2
theorem sc_init_Work : FnScope N_init_Work ["self", "winds", "fee", "more", "price"] (defScope s_init_Work) := ⟨rfl, rfl, rfl, by decide +kernel, rfl, by decide +kernel, by decide +kernel⟩
theorem der_init_Work {P : Program} {w : World} {K : PySem.W.Frag} {mg : Str → Option Value} {base : Heap} {A : Around} {outer : List Env} {s : Shared} {H : Hp} {E : XK} {f : Addr} {cdv : Value} (T : Txt K mg)
    (hr : Room 0 (A.deeper (envOfC "Work.__init__" (defScope s_init_Work) s.heap.objs.size f cdv))) :
    PSs (cxOf CX0 P w K mg base N_init_Work "Work.__init__" (defScope s_init_Work) f cdv A outer s H E).nox (defBody s_init_Work) (t_init_Work K) :=
  (pss_cons (ps_fld (pv 0) (pv 1) rfl)
    (pss_cons (ps_fld (pv 0) (pv 2) rfl)
    (pss_cons (ps_fld (pv 0) (pv 3) rfl)
    (pss_cons (ps_fld (pv 0) (pv 4) rfl)
    (pss_one (ps_fld (pv 0) (pe_op op_rep (pe_lst (pa_cons pe_int pa_nil)) (pe_gint T.SECTIONS rfl)) rfl))))))
theorem sc_init_Kit : FnScope N_init_Kit ["self", "work", "strings"] (defScope s_init_Kit) := ⟨rfl, rfl, rfl, by decide +kernel, rfl, by decide +kernel, by decide +kernel⟩
theorem der_init_Kit {P : Program} {w : World} {K : PySem.W.Frag} {mg : Str → Option Value} {base : Heap} {A : Around} {outer : List Env} {s : Shared} {H : Hp} {E : XK} {f : Addr} {cdv : Value} (T : Txt K mg)
    (hr : Room 0 (A.deeper (envOfC "Kit.__init__" (defScope s_init_Kit) s.heap.objs.size f cdv))) :
    PSs (cxOf CX0 P w K mg base N_init_Kit "Kit.__init__" (defScope s_init_Kit) f cdv A outer s H E).nox (defBody s_init_Kit) (t_init_Kit K) :=
  (pss_cons (ps_fld (pv 0) (pv 1) rfl)
    (pss_cons (ps_fld (pv 0) (pv 2) rfl)
    (pss_cons (ps_fld (pv 0) (pe_lst pa_nil) rfl)
    (pss_cons (ps_fld (pv 0) (pe_op op_rep (pe_lst (pa_cons pe_int pa_nil)) (pe_gint T.SECTIONS rfl)) rfl)
    (pss_one (ps_fld (pv 0) pe_int rfl))))))
theorem sc_init_Hiring : FnScope N_init_Hiring ["self", "work", "first", "spell", "concerts", "clean", "desks"] (defScope s_init_Hiring) := ⟨rfl, rfl, rfl, by decide +kernel, rfl, by decide +kernel, by decide +kernel⟩
theorem der_init_Hiring {P : Program} {w : World} {K : PySem.W.Frag} {mg : Str → Option Value} {base : Heap} {A : Around} {outer : List Env} {s : Shared} {H : Hp} {E : XK} {f : Addr} {cdv : Value} (T : Txt K mg)
    (hr : Room 0 (A.deeper (envOfC "Hiring.__init__" (defScope s_init_Hiring) s.heap.objs.size f cdv))) :
    PSs (cxOf CX0 P w K mg base N_init_Hiring "Hiring.__init__" (defScope s_init_Hiring) f cdv A outer s H E).nox (defBody s_init_Hiring) (t_init_Hiring K) :=
  (pss_cons (ps_fld (pv 0) (pv 1) rfl)
    (pss_cons (ps_fld (pv 0) (pv 2) rfl)
    (pss_cons (ps_fld (pv 0) (pv 3) rfl)
    (pss_cons (ps_fld (pv 0) (pv 4) rfl)
    (pss_cons (ps_fld (pv 0) (pv 5) rfl)
    (pss_cons (ps_fld (pv 0) (pv 6) rfl)
    (pss_cons (ps_fld (pv 0) pe_int rfl)
    (pss_cons (ps_fld (pv 0) (pe_op op_rep (pe_lst (pa_cons pe_int pa_nil)) (pe_gint T.SECTIONS rfl)) rfl)
    (pss_one (ps_fld (pv 0) (pe_gint T.BOOKED rfl) rfl))))))))))
theorem sc_init_Library : FnScope N_init_Library ["self"] (defScope s_init_Library) := ⟨rfl, rfl, rfl, by decide +kernel, rfl, by decide +kernel, by decide +kernel⟩
theorem der_init_Library {P : Program} {w : World} {K : PySem.W.Frag} {mg : Str → Option Value} {base : Heap} {A : Around} {outer : List Env} {s : Shared} {H : Hp} {E : XK} {f : Addr} {cdv : Value} (T : Txt K mg)
    (hr : Room 0 (A.deeper (envOfC "Library.__init__" (defScope s_init_Library) s.heap.objs.size f cdv))) :
    PSs (cxOf CX0 P w K mg base N_init_Library "Library.__init__" (defScope s_init_Library) f cdv A outer s H E).nox (defBody s_init_Library) (t_init_Library K) :=
  (pss_cons (ps_fld (pv 0) pe_bl rfl)
    (pss_cons (ps_fld (pv 0) pe_int rfl)
    (pss_cons (ps_fld (pv 0) pe_int rfl)
    (pss_cons (ps_fld (pv 0) pe_int rfl)
    (pss_cons (ps_fld (pv 0) (pe_lst pa_nil) rfl)
    (pss_cons (ps_fld (pv 0) (pe_lst pa_nil) rfl)
    (pss_cons (ps_fld (pv 0) (pe_lst pa_nil) rfl)
    (pss_cons (ps_fld (pv 0) pe_int rfl)
    (pss_one (ps_fld (pv 0) pe_int rfl))))))))))
theorem sc_are_parts : FnScope N_are_parts ["numbers"] (defScope s_are_parts) := ⟨rfl, rfl, rfl, by decide +kernel, rfl, by decide +kernel, by decide +kernel⟩
theorem der_are_parts {P : Program} {w : World} {K : PySem.W.Frag} {mg : Str → Option Value} {base : Heap} {A : Around} {outer : List Env} {s : Shared} {H : Hp} {E : XK} {f : Addr} {cdv : Value} (T : Txt K mg)
    (hr : Room 0 (A.deeper (envOfC "are_parts" (defScope s_are_parts) s.heap.objs.size f cdv))) :
    PSs (cxOf CX0 P w K mg base N_are_parts "are_parts" (defScope s_are_parts) f cdv A outer s H E).nox (defBody s_are_parts) (t_are_parts K) :=
  (pss_one (ps_ret (pe_and (pe_cmpR op_eq (pe_callB call_len_seq rfl T.len bt_len (pa_cons (pv 0) pa_nil)) (pe_gint T.SECTIONS rfl) (nomark _)) (pe_one (pe_callB (cr_all rfl) rfl T.all bt_all (pa_cons (pe_lc (own := [("number", 1)]) (g := (gName 1)) (tt := tYes) rfl sc_are_parts.nd (pi_list (pv 0)) (blkOk_by (own := [("number", 1)]) (N := N_are_parts) (sc := defScope s_are_parts) (by decide +kernel)) (fun _ _ _ _ _ => (pg_name (i := 1) sc_are_parts.nd rfl (by first | exact Or.inl rfl | exact Or.inr rfl))) (fun _ _ _ _ _ => pts_nil) (fun _ _ _ _ _ => (pe_cmpR op_le (pv 1) pe_int (nomark _)))) pa_nil))))))
theorem sc_there_of : FnScope N_there_of ["kit"] (defScope s_there_of) := ⟨rfl, rfl, rfl, by decide +kernel, rfl, by decide +kernel, by decide +kernel⟩
theorem der_there_of {P : Program} {w : World} {K : PySem.W.Frag} {mg : Str → Option Value} {base : Heap} {A : Around} {outer : List Env} {s : Shared} {H : Hp} {E : XK} {f : Addr} {cdv : Value} (T : Txt K mg)
    (hr : Room 0 (A.deeper (envOfC "there_of" (defScope s_there_of) s.heap.objs.size f cdv))) :
    PSs (cxOf CX0 P w K mg base N_there_of "there_of" (defScope s_there_of) f cdv A outer s H E).nox (defBody s_there_of) (t_there_of K) :=
  (pss_one (ps_ret (pe_lc (own := [("i", 1)]) (g := (gName 1)) (tt := tYes) rfl sc_there_of.nd (pi_range1 rfl T.range (pa_cons (pe_gint T.SECTIONS rfl) pa_nil)) (blkOk_by (own := [("i", 1)]) (N := N_there_of) (sc := defScope s_there_of) (by decide +kernel)) (fun _ _ _ _ _ => (pg_name (i := 1) sc_there_of.nd rfl (by first | exact Or.inl rfl | exact Or.inr rfl))) (fun _ _ _ _ _ => pts_nil) (fun _ _ _ _ _ => (pe_op op_sub (pe_ix ix_list (pe_fld (pv 0) rfl) (pv 1) (fun _ _ => rfl)) (pe_ix ix_list (pe_fld (pv 0) rfl) (pv 1) (fun _ _ => rfl)))))))
theorem sc_last_day : FnScope N_last_day ["hiring"] (defScope s_last_day) := ⟨rfl, rfl, rfl, by decide +kernel, rfl, by decide +kernel, by decide +kernel⟩
theorem der_last_day {P : Program} {w : World} {K : PySem.W.Frag} {mg : Str → Option Value} {base : Heap} {A : Around} {outer : List Env} {s : Shared} {H : Hp} {E : XK} {f : Addr} {cdv : Value} (T : Txt K mg)
    (hr : Room 0 (A.deeper (envOfC "last_day" (defScope s_last_day) s.heap.objs.size f cdv))) :
    PSs (cxOf CX0 P w K mg base N_last_day "last_day" (defScope s_last_day) f cdv A outer s H E).nox (defBody s_last_day) (t_last_day K) :=
  (pss_one (ps_ret (pe_op op_sub (pe_op op_add (pe_fld (pv 0) rfl) (pe_fld (pv 0) rfl)) pe_int)))
theorem sc_is_on : FnScope N_is_on ["hiring"] (defScope s_is_on) := ⟨rfl, rfl, rfl, by decide +kernel, rfl, by decide +kernel, by decide +kernel⟩
theorem der_is_on {P : Program} {w : World} {K : PySem.W.Frag} {mg : Str → Option Value} {base : Heap} {A : Around} {outer : List Env} {s : Shared} {H : Hp} {E : XK} {f : Addr} {cdv : Value} (T : Txt K mg)
    (hr : Room 0 (A.deeper (envOfC "is_on" (defScope s_is_on) s.heap.objs.size f cdv))) :
    PSs (cxOf CX0 P w K mg base N_is_on "is_on" (defScope s_is_on) f cdv A outer s H E).nox (defBody s_is_on) (t_is_on K) :=
  (pss_one (ps_ret (pe_or (pe_cmpR op_eq (pe_fld (pv 0) rfl) (pe_gint T.BOOKED rfl) (nomark _)) (pe_one (pe_cmpR op_eq (pe_fld (pv 0) rfl) (pe_gint T.OUT rfl) (nomark _))))))
theorem sc_is_out : FnScope N_is_out ["lib", "kit"] (defScope s_is_out) := ⟨rfl, rfl, rfl, by decide +kernel, rfl, by decide +kernel, by decide +kernel⟩
theorem der_is_out {P : Program} {w : World} {K : PySem.W.Frag} {mg : Str → Option Value} {base : Heap} {A : Around} {outer : List Env} {s : Shared} {H : Hp} {E : XK} {f : Addr} {cdv : Value} (T : Txt K mg)
    (hr : Room 0 (A.deeper (envOfC "is_out" (defScope s_is_out) s.heap.objs.size f cdv))) :
    PSs (cxOf CX0 P w K mg base N_is_out "is_out" (defScope s_is_out) f cdv A outer s H E).nox (defBody s_is_out) (t_is_out K) :=
  (pss_one (ps_ret (pe_callB (cr_any rfl) rfl T.any bt_any (pa_cons (pe_lc (own := [("hiring", 2)]) (g := (gName 2)) (tt := tYes) rfl sc_is_out.nd (pi_list (pe_fld (pv 0) rfl)) (blkOk_by (own := [("hiring", 2)]) (N := N_is_out) (sc := defScope s_is_out) (by decide +kernel)) (fun _ _ _ _ _ => (pg_name (i := 2) sc_is_out.nd rfl (by first | exact Or.inl rfl | exact Or.inr rfl))) (fun _ _ _ _ _ => pts_nil) (fun _ _ _ _ _ => (pe_and (pe_cmpR op_eq (pe_fld (pv 2) rfl) (pe_gint T.OUT rfl) (nomark _)) (pe_one (pe_cmpR op_eq (pe_fld (pv 2) rfl) (pv 1) (nomark _)))))) pa_nil))))
end Pl

namespace Pl
open PySem PySem.Spec PyProof.Rows L2
theorem sc_are_enough : FnScope N_are_enough ["wanted", "free"] (defScope s_are_enough) := ⟨rfl, rfl, rfl, by decide +kernel, rfl, by decide +kernel, by decide +kernel⟩
theorem der_are_enough {P : Program} {w : World} {K : PySem.W.Frag} {mg : Str → Option Value} {base : Heap} {A : Around} {outer : List Env} {s : Shared} {H : Hp} {E : XK} {f : Addr} {cdv : Value} (T : Txt K mg)
    (hr : Room 0 (A.deeper (envOfC "are_enough" (defScope s_are_enough) s.heap.objs.size f cdv))) :
    PSs (cxOf CX0 P w K mg base N_are_enough "are_enough" (defScope s_are_enough) f cdv A outer s H E).nox (defBody s_are_enough) (t_are_enough K) :=
  (pss_one (ps_ret (pe_callB (cr_all rfl) rfl T.all bt_all (pa_cons (pe_lc (own := [("i", 2)]) (g := (gName 2)) (tt := tYes) rfl sc_are_enough.nd (pi_range1 rfl T.range (pa_cons (pe_gint T.SECTIONS rfl) pa_nil)) (blkOk_by (own := [("i", 2)]) (N := N_are_enough) (sc := defScope s_are_enough) (by decide +kernel)) (fun _ _ _ _ _ => (pg_name (i := 2) sc_are_enough.nd rfl (by first | exact Or.inl rfl | exact Or.inr rfl))) (fun _ _ _ _ _ => pts_nil) (fun _ _ _ _ _ => (pe_or (pe_cmpR op_eq (pe_ix ix_list (pv 0) (pv 2) (fun _ _ => rfl)) pe_int (nomark _)) (pe_one (pe_cmpR op_le (pe_ix ix_list (pv 0) (pv 2) (fun _ _ => rfl)) (pe_ix ix_list (pv 1) (pv 2) (fun _ _ => rfl)) (nomark _)))))) pa_nil))))
theorem sc_end_of : FnScope N_end_of ["lib", "first", "spell"] (defScope s_end_of) := ⟨rfl, rfl, rfl, by decide +kernel, rfl, by decide +kernel, by decide +kernel⟩
theorem der_end_of {P : Program} {w : World} {K : PySem.W.Frag} {mg : Str → Option Value} {base : Heap} {A : Around} {outer : List Env} {s : Shared} {H : Hp} {E : XK} {f : Addr} {cdv : Value} (T : Txt K mg)
    (hr : Room 0 (A.deeper (envOfC "end_of" (defScope s_end_of) s.heap.objs.size f cdv))) :
    PSs (cxOf CX0 P w K mg base N_end_of "end_of" (defScope s_end_of) f cdv A outer s H E).nox (defBody s_end_of) (t_end_of K) :=
  (pss_one (ps_ret (pe_op op_add (pe_op op_add (pv 1) (pv 2)) (pe_fld (pv 0) rfl))))
theorem sc_are_days_right : FnScope N_are_days_right ["lib", "first", "spell"] (defScope s_are_days_right) := ⟨rfl, rfl, rfl, by decide +kernel, rfl, by decide +kernel, by decide +kernel⟩
theorem der_are_days_right {P : Program} {w : World} {K : PySem.W.Frag} {mg : Str → Option Value} {base : Heap} {A : Around} {outer : List Env} {s : Shared} {H : Hp} {E : XK} {f : Addr} {cdv : Value} (T : Txt K mg)
    (hr : Room 0 (A.deeper (envOfC "are_days_right" (defScope s_are_days_right) s.heap.objs.size f cdv))) :
    PSs (cxOf CX0 P w K mg base N_are_days_right "are_days_right" (defScope s_are_days_right) f cdv A outer s H E).nox (defBody s_are_days_right) (t_are_days_right K) :=
  (pss_cons (ps_if (PW.pt (pw_or (pt_cmpR op_lt (pv 1) (pe_fld (pv 0) rfl) (nomark _)) (pw_or1 (pt_not (pt_chain op_le op_le pe_int (pv 2) (pe_gint T.MOST_DAYS rfl)))))) (pss_one (ps_ret pe_bl)) pss_nil)
    (pss_one (ps_ret (pe_cmpR op_le (pe_op op_add (pv 1) (pv 2)) (pe_gint T.END_OF_DAYS rfl) (nomark _)))))
theorem sc_cancel : FnScope N_cancel ["lib", "numbers", "lists"] (defScope s_cancel) := ⟨rfl, rfl, rfl, by decide +kernel, rfl, by decide +kernel, by decide +kernel⟩
theorem der_cancel {P : Program} {w : World} {K : PySem.W.Frag} {mg : Str → Option Value} {base : Heap} {A : Around} {outer : List Env} {s : Shared} {H : Hp} {E : XK} {f : Addr} {cdv : Value} (T : Txt K mg)
    (hr : Room 0 (A.deeper (envOfC "cancel" (defScope s_cancel) s.heap.objs.size f cdv))) :
    PSs (cxOf CX0 P w K mg base N_cancel "cancel" (defScope s_cancel) f cdv A outer s H E).nox (defBody s_cancel) (t_cancel K) :=
  (pss_cons (ps_if (pt_cmpR op_ge (pe_ix ix_list (pv 1) pe_int (fun _ _ => rfl)) (pe_callB call_len_seq rfl T.len bt_len (pa_cons (pe_fld (pv 0) rfl) pa_nil)) (nomark _)) (pss_one (ps_ret (pe_lst (pa_cons (pe_gint T.NONE_SUCH rfl) pa_nil)))) pss_nil)
    (pss_cons (ps_set (i := 3) sc_cancel.nd rfl (by first | exact Or.inl rfl | exact Or.inr rfl) (pe_ix ix_list (pe_fld (pv 0) rfl) (pe_ix ix_list (pv 1) pe_int (fun _ _ => rfl)) (fun _ _ => rfl)))
    (pss_cons (ps_if (pt_cmpR op_ne (pe_fld (pv 3) rfl) (pe_gint T.BOOKED rfl) (nomark _)) (pss_one (ps_ret (pe_lst (pa_cons (pe_gint T.NOT_SO rfl) pa_nil)))) pss_nil)
    (pss_cons (ps_fld (pv 3) (pe_gint T.OFF rfl) rfl)
    (pss_one (ps_ret (pe_lst (pa_cons pe_int pa_nil))))))))
theorem sc_begin : FnScope N_begin ["lib", "numbers", "lists"] (defScope s_begin) := ⟨rfl, rfl, rfl, by decide +kernel, rfl, by decide +kernel, by decide +kernel⟩
theorem der_begin {P : Program} {w : World} {K : PySem.W.Frag} {mg : Str → Option Value} {base : Heap} {A : Around} {outer : List Env} {s : Shared} {H : Hp} {E : XK} {f : Addr} {cdv : Value} (T : Txt K mg)
    (hr : Room 0 (A.deeper (envOfC "begin" (defScope s_begin) s.heap.objs.size f cdv))) :
    PSs (cxOf CX0 P w K mg base N_begin "begin" (defScope s_begin) f cdv A outer s H E).nox (defBody s_begin) (t_begin K) :=
  (pss_cons (ps_asg (pv 1) (pg_lst rfl (pgs_cons (pg_name (i := 3) sc_begin.nd rfl (by first | exact Or.inl rfl | exact Or.inr rfl)) (pgs_cons (pg_name (i := 4) sc_begin.nd rfl (by first | exact Or.inl rfl | exact Or.inr rfl)) pgs_nil))))
    (pss_cons (ps_if (PW.pt (pw_or (pt_cmpR op_gt (pv 3) (pe_gint T.MOST_TURN rfl) (nomark _)) (pw_or1 (pt_cmpR op_gt (pv 4) (pe_gint T.MOST_FINE rfl) (nomark _))))) (pss_one (ps_ret (pe_lst (pa_cons (pe_gint T.OUT_OF_RANGE rfl) pa_nil)))) pss_nil)
    (pss_cons (ps_fld (pv 0) pe_bl rfl)
    (pss_cons (ps_fld (pv 0) (pv 3) rfl)
    (pss_cons (ps_fld (pv 0) (pv 4) rfl)
    (pss_cons (ps_fld (pv 0) pe_int rfl)
    (pss_cons (ps_fld (pv 0) (pe_lst pa_nil) rfl)
    (pss_cons (ps_fld (pv 0) (pe_lst pa_nil) rfl)
    (pss_cons (ps_fld (pv 0) (pe_lst pa_nil) rfl)
    (pss_cons (ps_fld (pv 0) pe_int rfl)
    (pss_cons (ps_fld (pv 0) pe_int rfl)
    (pss_one (ps_ret (pe_lst (pa_cons pe_int pa_nil)))))))))))))))
theorem sc_put_loose : FnScope N_put_loose ["lib", "numbers", "lists"] (defScope s_put_loose) := ⟨rfl, rfl, rfl, by decide +kernel, rfl, by decide +kernel, by decide +kernel⟩
theorem der_put_loose {P : Program} {w : World} {K : PySem.W.Frag} {mg : Str → Option Value} {base : Heap} {A : Around} {outer : List Env} {s : Shared} {H : Hp} {E : XK} {f : Addr} {cdv : Value} (T : Txt K mg)
    (hr : Room 0 (A.deeper (envOfC "put_loose" (defScope s_put_loose) s.heap.objs.size f cdv))) :
    PSs (cxOf CX0 P w K mg base N_put_loose "put_loose" (defScope s_put_loose) f cdv A outer s H E).nox (defBody s_put_loose) (t_put_loose K) :=
  (pss_cons (ps_asg (pv 1) (pg_lst rfl (pgs_cons (pg_name (i := 3) sc_put_loose.nd rfl (by first | exact Or.inl rfl | exact Or.inr rfl)) (pgs_cons (pg_name (i := 4) sc_put_loose.nd rfl (by first | exact Or.inl rfl | exact Or.inr rfl)) (pgs_cons (pg_name (i := 5) sc_put_loose.nd rfl (by first | exact Or.inl rfl | exact Or.inr rfl)) pgs_nil)))))
    (pss_cons (ps_if (pt_cmpR op_ge (pv 3) (pe_callB call_len_seq rfl T.len bt_len (pa_cons (pe_fld (pv 0) rfl) pa_nil)) (nomark _)) (pss_one (ps_ret (pe_lst (pa_cons (pe_gint T.NONE_SUCH rfl) pa_nil)))) pss_nil)
    (pss_cons (ps_if (PW.pt (pw_or (pt_cmpR op_ge (pv 4) (pe_gint T.SECTIONS rfl) (nomark _)) (pw_or1 (pt_not (pt_chain op_le op_le pe_int (pv 5) (pe_gint T.MOST_PUT rfl)))))) (pss_one (ps_ret (pe_lst (pa_cons (pe_gint T.OUT_OF_RANGE rfl) pa_nil)))) pss_nil)
    (pss_cons (ps_set (i := 6) sc_put_loose.nd rfl (by first | exact Or.inl rfl | exact Or.inr rfl) (pe_fld (pe_ix ix_list (pe_fld (pv 0) rfl) (pv 3) (fun _ _ => rfl)) rfl))
    (pss_cons (ps_if (pt_cmpR op_gt (pe_op op_add (pe_ix ix_list (pv 6) (pv 4) (fun _ _ => rfl)) (pv 5)) (pe_gint T.MOST_LOOSE rfl) (nomark _)) (pss_one (ps_ret (pe_lst (pa_cons (pe_gint T.TOO_MANY rfl) pa_nil)))) pss_nil)
    (pss_cons (ps_augS (pv 6) (pv 4) get_list (pv 5) ip_add set_list)
    (pss_one (ps_ret (pe_lst (pa_cons (pe_ix ix_list (pv 6) (pv 4) (fun _ _ => rfl)) pa_nil))))))))))
theorem sc_are_winds : FnScope N_are_winds ["work", "winds"] (defScope s_are_winds) := ⟨rfl, rfl, rfl, by decide +kernel, rfl, by decide +kernel, by decide +kernel⟩
theorem der_are_winds {P : Program} {w : World} {K : PySem.W.Frag} {mg : Str → Option Value} {base : Heap} {A : Around} {outer : List Env} {s : Shared} {H : Hp} {E : XK} {f : Addr} {cdv : Value} (T : Txt K mg)
    (hr : Room 0 (A.deeper (envOfC "are_winds" (defScope s_are_winds) s.heap.objs.size f cdv))) :
    PSs (cxOf CX0 P w K mg base N_are_winds "are_winds" (defScope s_are_winds) f cdv A outer s H E).nox (defBody s_are_winds) (t_are_winds K) :=
  (pss_cons (ps_for PassesOwn.never rfl (pi_range1 rfl T.range (pa_cons (pe_callB call_len_seq rfl T.len bt_len (pa_cons (pv 1) pa_nil)) pa_nil)) (pg_name (i := 2) sc_are_winds.nd rfl (by first | exact Or.inl rfl | exact Or.inr rfl)) (pss_one (ps_if (PW.pt (pw_or (pt_cmpR op_ge (pe_ix ix_list (pv 1) (pv 2) (fun _ _ => rfl)) (pe_fld (pv 0) rfl) (nomark _)) (pw_or1 (PW.pt (pw_and (pt_cmpR op_gt (pv 2) pe_int (nomark _)) (pw_and1 (pt_cmpR op_ge (pe_ix ix_list (pv 1) (pe_op op_sub (pv 2) pe_int) (fun _ _ => rfl)) (pe_ix ix_list (pv 1) (pv 2) (fun _ _ => rfl)) (nomark _)))))))) (pss_one (ps_ret pe_bl)) pss_nil)))
    (pss_one (ps_ret pe_bl)))
theorem sc_lose_strings : FnScope N_lose_strings ["lib", "hiring", "strings"] (defScope s_lose_strings) := ⟨rfl, rfl, rfl, by decide +kernel, rfl, by decide +kernel, by decide +kernel⟩
theorem der_lose_strings {P : Program} {w : World} {K : PySem.W.Frag} {mg : Str → Option Value} {base : Heap} {A : Around} {outer : List Env} {s : Shared} {H : Hp} {E : XK} {f : Addr} {cdv : Value} (T : Txt K mg)
    (hr : Room 0 (A.deeper (envOfC "lose_strings" (defScope s_lose_strings) s.heap.objs.size f cdv))) :
    PSs (cxOf CX0 P w K mg base N_lose_strings "lose_strings" (defScope s_lose_strings) f cdv A outer s H E).nox (defBody s_lose_strings) (t_lose_strings K) :=
  (pss_cons (ps_set (i := 3) sc_lose_strings.nd rfl (by first | exact Or.inl rfl | exact Or.inr rfl) (pe_fld (pe_ix ix_list (pe_fld (pv 0) rfl) (pe_fld (pv 1) rfl) (fun _ _ => rfl)) rfl))
    (pss_cons (ps_set (i := 4) sc_lose_strings.nd rfl (by first | exact Or.inl rfl | exact Or.inr rfl) (pe_fld (pe_ix ix_list (pe_fld (pv 0) rfl) (pe_fld (pv 1) rfl) (fun _ _ => rfl)) rfl))
    (pss_one (ps_for PassesOwn.never rfl (pi_range1 rfl T.range (pa_cons (pe_gint T.SECTIONS rfl) pa_nil)) (pg_name (i := 5) sc_lose_strings.nd rfl (by first | exact Or.inl rfl | exact Or.inr rfl)) (pss_cons (ps_set (i := 6) sc_lose_strings.nd rfl (by first | exact Or.inl rfl | exact Or.inr rfl) (pe_callB (call_min2 rfl) rfl T.min bt_min (pa_cons (pe_ix ix_list (pv 2) (pv 5) (fun _ _ => rfl)) (pa_cons (pe_ix ix_list (pe_fld (pv 1) rfl) (pv 5) (fun _ _ => rfl)) pa_nil))))
    (pss_cons (ps_augS (pv 3) (pv 5) get_list (pv 6) ip_sub set_list)
    (pss_one (ps_augS (pv 4) (pv 5) get_list (pe_op op_sub (pe_ix ix_list (pv 2) (pv 5) (fun _ _ => rfl)) (pv 6)) ip_add set_list))))))))
theorem sc_go_on : FnScope N_go_on ["lib", "numbers", "lists"] (defScope s_go_on) := ⟨rfl, rfl, rfl, by decide +kernel, rfl, by decide +kernel, by decide +kernel⟩
theorem der_go_on {P : Program} {w : World} {K : PySem.W.Frag} {mg : Str → Option Value} {base : Heap} {A : Around} {outer : List Env} {s : Shared} {H : Hp} {E : XK} {f : Addr} {cdv : Value} (T : Txt K mg)
    (hr : Room 0 (A.deeper (envOfC "go_on" (defScope s_go_on) s.heap.objs.size f cdv))) :
    PSs (cxOf CX0 P w K mg base N_go_on "go_on" (defScope s_go_on) f cdv A outer s H E).nox (defBody s_go_on) (t_go_on K) :=
  (pss_cons (ps_if (pt_not (pt_chain op_le op_le pe_int (pe_ix ix_list (pv 1) pe_int (fun _ _ => rfl)) (pe_gint T.MOST_STEP rfl))) (pss_one (ps_ret (pe_lst (pa_cons (pe_gint T.OUT_OF_RANGE rfl) pa_nil)))) pss_nil)
    (pss_cons (ps_fldaug (pv 0) (pe_ix ix_list (pv 1) pe_int (fun _ _ => rfl)) in_add)
    (pss_one (ps_ret (pe_lst (pa_cons (pe_fld (pv 0) rfl) pa_nil))))))
end Pl

namespace Pl
open PySem PySem.Spec PyProof.Rows L2
theorem sc_lost : FnScope N_lost ["lib", "numbers", "lists"] (defScope s_lost) := ⟨rfl, rfl, rfl, by decide +kernel, rfl, by decide +kernel, by decide +kernel⟩
theorem der_lost {P : Program} {w : World} {K : PySem.W.Frag} {mg : Str → Option Value} {base : Heap} {A : Around} {outer : List Env} {s : Shared} {H : Hp} {E : XK} {f : Addr} {cdv : Value} (T : Txt K mg)
    (hr : Room 0 (A.deeper (envOfC "lost" (defScope s_lost) s.heap.objs.size f cdv))) :
    PSs (cxOf CX0 P w K mg base N_lost "lost" (defScope s_lost) f cdv A outer s H E).nox (defBody s_lost) (t_lost K) :=
  (pss_cons (ps_if (pt_cmpR op_ge (pe_ix ix_list (pv 1) pe_int (fun _ _ => rfl)) (pe_callB call_len_seq rfl T.len bt_len (pa_cons (pe_fld (pv 0) rfl) pa_nil)) (nomark _)) (pss_one (ps_ret (pe_lst (pa_cons (pe_gint T.NONE_SUCH rfl) pa_nil)))) pss_nil)
    (pss_cons (ps_set (i := 3) sc_lost.nd rfl (by first | exact Or.inl rfl | exact Or.inr rfl) (pe_ix ix_list (pe_fld (pv 0) rfl) (pe_ix ix_list (pv 1) pe_int (fun _ _ => rfl)) (fun _ _ => rfl)))
    (pss_one (ps_ret (pe_op op_cat (pe_op op_cat (pe_lst (pa_cons (pe_callB call_len_seq rfl T.len bt_len (pa_cons (pe_fld (pv 3) rfl) pa_nil)) pa_nil)) (pe_fld (pv 3) rfl)) (pe_fld (pv 3) rfl))))))
theorem sc_torn : FnScope N_torn ["lib", "numbers", "lists"] (defScope s_torn) := ⟨rfl, rfl, rfl, by decide +kernel, rfl, by decide +kernel, by decide +kernel⟩
theorem der_torn {P : Program} {w : World} {K : PySem.W.Frag} {mg : Str → Option Value} {base : Heap} {A : Around} {outer : List Env} {s : Shared} {H : Hp} {E : XK} {f : Addr} {cdv : Value} (T : Txt K mg)
    (hr : Room 0 (A.deeper (envOfC "torn" (defScope s_torn) s.heap.objs.size f cdv))) :
    PSs (cxOf CX0 P w K mg base N_torn "torn" (defScope s_torn) f cdv A outer s H E).nox (defBody s_torn) (t_torn K) :=
  (pss_cons (ps_setLc (i := 5) (own := [("at", 3), ("kit", 4)]) (g := (gTup K 2 (gCons (gName 3) (gCons (gName 4) gNil)))) (tt := (tTest (tOp (rNeD K) (tFld K (tVar 4) "missing") (tLst tNil)))) rfl sc_torn.nd rfl rfl (sw_true rfl rfl rfl (by decide +kernel)) (pi_enum rfl T.enumerate (pa_cons (pe_fld (pv 0) rfl) pa_nil)) (blkOk_by (own := [("at", 3), ("kit", 4)]) (N := N_torn) (sc := defScope s_torn) (by decide +kernel)) (fun _ _ _ _ _ => (pg_tup rfl (pgs_cons (pg_name (i := 3) sc_torn.nd rfl (by first | exact Or.inl rfl | exact Or.inr rfl)) (pgs_cons (pg_name (i := 4) sc_torn.nd rfl (by first | exact Or.inl rfl | exact Or.inr rfl)) pgs_nil)))) (fun _ _ _ _ _ => (pts_one (pt_cmpR (op_neD hr.units) (pe_fld (pv 4) rfl) (pe_lst pa_nil) (nomark _)))) (fun _ _ _ _ _ => (pv 3)))
    (pss_one (ps_ret (pe_op op_cat (pe_lst (pa_cons (pe_callB call_len_seq rfl T.len bt_len (pa_cons (pv 5) pa_nil)) pa_nil)) (pv 5)))))
theorem sc_look : FnScope N_look ["lib", "numbers", "lists"] (defScope s_look) := ⟨rfl, rfl, rfl, by decide +kernel, rfl, by decide +kernel, by decide +kernel⟩
theorem der_look {P : Program} {w : World} {K : PySem.W.Frag} {mg : Str → Option Value} {base : Heap} {A : Around} {outer : List Env} {s : Shared} {H : Hp} {E : XK} {f : Addr} {cdv : Value} (T : Txt K mg)
    (hr : Room 0 (A.deeper (envOfC "look" (defScope s_look) s.heap.objs.size f cdv))) :
    PSs (cxOf CX0 P w K mg base N_look "look" (defScope s_look) f cdv A outer s H E).nox (defBody s_look) (t_look K) :=
  (pss_cons (ps_if (pt_cmpR op_ge (pe_ix ix_list (pv 1) pe_int (fun _ _ => rfl)) (pe_callB call_len_seq rfl T.len bt_len (pa_cons (pe_fld (pv 0) rfl) pa_nil)) (nomark _)) (pss_one (ps_ret (pe_lst (pa_cons (pe_gint T.NONE_SUCH rfl) pa_nil)))) pss_nil)
    (pss_cons (ps_set (i := 3) sc_look.nd rfl (by first | exact Or.inl rfl | exact Or.inr rfl) (pe_ix ix_list (pe_fld (pv 0) rfl) (pe_ix ix_list (pv 1) pe_int (fun _ _ => rfl)) (fun _ _ => rfl)))
    (pss_cons (ps_set (i := 4) sc_look.nd rfl (by first | exact Or.inl rfl | exact Or.inr rfl) (pe_lst (pa_cons (pe_fld (pv 3) rfl) (pa_cons (pe_fld (pv 3) rfl) (pa_cons (pe_fld (pv 3) rfl) (pa_cons (pe_fld (pv 3) rfl) (pa_cons (pe_fld (pv 3) rfl) (pa_cons (pe_fld (pv 3) rfl) (pa_cons (pe_fld (pv 3) rfl) pa_nil)))))))))
    (pss_one (ps_ret (pe_op op_cat (pe_op op_cat (pv 4) (pe_fld (pv 3) rfl)) (pe_fld (pv 3) rfl)))))))
theorem sc_marks : FnScope N_marks ["lib", "numbers", "lists"] (defScope s_marks) := ⟨rfl, rfl, rfl, by decide +kernel, rfl, by decide +kernel, by decide +kernel⟩
theorem der_marks {P : Program} {w : World} {K : PySem.W.Frag} {mg : Str → Option Value} {base : Heap} {A : Around} {outer : List Env} {s : Shared} {H : Hp} {E : XK} {f : Addr} {cdv : Value} (T : Txt K mg)
    (hr : Room 0 (A.deeper (envOfC "marks" (defScope s_marks) s.heap.objs.size f cdv))) :
    PSs (cxOf CX0 P w K mg base N_marks "marks" (defScope s_marks) f cdv A outer s H E).nox (defBody s_marks) (t_marks K) :=
  (pss_one (ps_ret (pe_ifExp (pt_cmpR op_lt (pe_ix ix_list (pv 1) pe_int (fun _ _ => rfl)) (pe_callB call_len_seq rfl T.len bt_len (pa_cons (pe_fld (pv 0) rfl) pa_nil)) (nomark _)) (pe_lst (pa_cons (pe_fld (pe_ix ix_list (pe_fld (pv 0) rfl) (pe_ix ix_list (pv 1) pe_int (fun _ _ => rfl)) (fun _ _ => rfl)) rfl) pa_nil)) (pe_lst (pa_cons (pe_gint T.NONE_SUCH rfl) pa_nil)))))
theorem sc_sums : FnScope N_sums ["lib", "numbers", "lists"] (defScope s_sums) := ⟨rfl, rfl, rfl, by decide +kernel, rfl, by decide +kernel, by decide +kernel⟩
theorem der_sums {P : Program} {w : World} {K : PySem.W.Frag} {mg : Str → Option Value} {base : Heap} {A : Around} {outer : List Env} {s : Shared} {H : Hp} {E : XK} {f : Addr} {cdv : Value} (T : Txt K mg)
    (hr : Room 0 (A.deeper (envOfC "sums" (defScope s_sums) s.heap.objs.size f cdv))) :
    PSs (cxOf CX0 P w K mg base N_sums "sums" (defScope s_sums) f cdv A outer s H E).nox (defBody s_sums) (t_sums K) :=
  (pss_cons (ps_set (i := 4) sc_sums.nd rfl (by first | exact Or.inl rfl | exact Or.inr rfl) (pe_callB call_len_seq rfl T.len bt_len (pa_cons (pe_lc (own := [("hiring", 3)]) (g := (gName 3)) (tt := (tTest (tOp rEq (tFld K (tVar 3) "how") (tC (.int (1)))))) rfl sc_sums.nd (pi_list (pe_fld (pv 0) rfl)) (blkOk_by (own := [("hiring", 3)]) (N := N_sums) (sc := defScope s_sums) (by decide +kernel)) (fun _ _ _ _ _ => (pg_name (i := 3) sc_sums.nd rfl (by first | exact Or.inl rfl | exact Or.inr rfl))) (fun _ _ _ _ _ => (pts_one (pt_cmpR op_eq (pe_fld (pv 3) rfl) (pe_gint T.OUT rfl) (nomark _)))) (fun _ _ _ _ _ => (pv 3))) pa_nil)))
    (pss_cons (ps_set (i := 5) sc_sums.nd rfl (by first | exact Or.inl rfl | exact Or.inr rfl) (pe_callB call_len_seq rfl T.len bt_len (pa_cons (pe_lc (own := [("hiring", 3)]) (g := (gName 3)) (tt := (tTest (tOp rEq (tFld K (tVar 3) "how") (tC (.int (2)))))) rfl sc_sums.nd (pi_list (pe_fld (pv 0) rfl)) (blkOk_by (own := [("hiring", 3)]) (N := N_sums) (sc := defScope s_sums) (by decide +kernel)) (fun _ _ _ _ _ => (pg_name (i := 3) sc_sums.nd rfl (by first | exact Or.inl rfl | exact Or.inr rfl))) (fun _ _ _ _ _ => (pts_one (pt_cmpR op_eq (pe_fld (pv 3) rfl) (pe_gint T.BACK rfl) (nomark _)))) (fun _ _ _ _ _ => (pv 3))) pa_nil)))
    (pss_one (ps_ret (pe_lst (pa_cons pe_int (pa_cons (pe_fld (pv 0) rfl) (pa_cons (pe_fld (pv 0) rfl) (pa_cons (pv 4) (pa_cons (pv 5) pa_nil))))))))))
theorem sc_state : FnScope N_state ["lib", "numbers", "lists"] (defScope s_state) := ⟨rfl, rfl, rfl, by decide +kernel, rfl, by decide +kernel, by decide +kernel⟩
theorem der_state {P : Program} {w : World} {K : PySem.W.Frag} {mg : Str → Option Value} {base : Heap} {A : Around} {outer : List Env} {s : Shared} {H : Hp} {E : XK} {f : Addr} {cdv : Value} (T : Txt K mg)
    (hr : Room 0 (A.deeper (envOfC "state" (defScope s_state) s.heap.objs.size f cdv))) :
    PSs (cxOf CX0 P w K mg base N_state "state" (defScope s_state) f cdv A outer s H E).nox (defBody s_state) (t_state K) :=
  (pss_one (ps_ret (pe_lst (pa_cons pe_int (pa_cons (pe_fld (pv 0) rfl) (pa_cons (pe_callB call_len_seq rfl T.len bt_len (pa_cons (pe_fld (pv 0) rfl) pa_nil)) (pa_cons (pe_callB call_len_seq rfl T.len bt_len (pa_cons (pe_fld (pv 0) rfl) pa_nil)) (pa_cons (pe_callB call_len_seq rfl T.len bt_len (pa_cons (pe_fld (pv 0) rfl) pa_nil)) pa_nil))))))))
theorem sc_rows_at : FnScope N_rows_at ["calls", "at", "many"] (defScope s_rows_at) := ⟨rfl, rfl, rfl, by decide +kernel, rfl, by decide +kernel, by decide +kernel⟩
theorem der_rows_at {P : Program} {w : World} {K : PySem.W.Frag} {mg : Str → Option Value} {base : Heap} {A : Around} {outer : List Env} {s : Shared} {H : Hp} {E : XK} {f : Addr} {cdv : Value} (T : Txt K mg)
    (hr : Room 0 (A.deeper (envOfC "rows_at" (defScope s_rows_at) s.heap.objs.size f cdv))) :
    PSs (cxOf CX0 P w K mg base N_rows_at "rows_at" (defScope s_rows_at) f cdv A outer s H E).nox (defBody s_rows_at) (t_rows_at K) :=
  (pss_cons (ps_set (i := 3) sc_rows_at.nd rfl (by first | exact Or.inl rfl | exact Or.inr rfl) (pe_lst pa_nil))
    (pss_cons (ps_for PassesOwn.never rfl (pi_range1 rfl T.range (pa_cons (pv 2) pa_nil)) (pg_name (i := 4) sc_rows_at.nd rfl (by first | exact Or.inl rfl | exact Or.inr rfl)) (pss_cons (ps_set (i := 5) sc_rows_at.nd rfl (by first | exact Or.inl rfl | exact Or.inr rfl) (pe_op op_add (pv 1) pe_int))
    (pss_cons (ps_set (i := 1) sc_rows_at.nd rfl (by first | exact Or.inl rfl | exact Or.inr rfl) (pe_op op_add (pv 5) (pe_ix ix_list (pv 0) (pv 1) (fun _ _ => rfl))))
    (pss_one (ps_expr (pe_bm PySem.F.plainAttrs_list PySem.F.slot_list_append PySem.F.type_list_append mt_append (pv 3) (pa_cons (pe_slice sl_list (pv 0) (po_some (pv 5)) (po_some (pv 1))) pa_nil)))))))
    (pss_one (ps_ret (pe_tup (pa_cons (pv 3) (pa_cons (pv 1) pa_nil)))))))
theorem sc_over_day : FnScope N_over_day ["lib", "hiring"] (defScope s_over_day) := ⟨rfl, rfl, rfl, by decide +kernel, rfl, by decide +kernel, by decide +kernel⟩
theorem der_over_day {P : Program} {w : World} {K : PySem.W.Frag} {mg : Str → Option Value} {base : Heap} {A : Around} {outer : List Env} {s : Shared} {H : Hp} {E : XK} {f : Addr} {cdv : Value} (T : Txt K mg) (d_last_day : Def P w K mg base 1 "last_day" (sp_last_day K))
    (hr : Room 1 (A.deeper (envOfC "over_day" (defScope s_over_day) s.heap.objs.size f cdv))) :
    PSs (cxOf CX0 P w K mg base N_over_day "over_day" (defScope s_over_day) f cdv A outer s H E).nox (defBody s_over_day) (t_over_day K) :=
  (pss_cons (ps_set (i := 2) sc_over_day.nd rfl (by first | exact Or.inl rfl | exact Or.inr rfl) (pe_callN d_last_day (hr.mono (by decide)) rfl (pa_cons (pv 1) pa_nil)))
    (pss_cons (ps_if (PW.pt (pw_and (pt_cmpR op_eq (pe_fld (pv 1) rfl) (pe_gint T.OUT rfl) (nomark _)) (pw_and1 (pt_cmpR op_gt (pe_fld (pv 0) rfl) (pv 2) (nomark _))))) (pss_one (ps_set (i := 2) sc_over_day.nd rfl (by first | exact Or.inl rfl | exact Or.inr rfl) (pe_fld (pv 0) rfl))) pss_nil)
    (pss_one (ps_ret (pe_op op_add (pe_op op_add (pv 2) (pe_fld (pv 0) rfl)) pe_int)))))
theorem sc_late_by : FnScope N_late_by ["lib", "hiring"] (defScope s_late_by) := ⟨rfl, rfl, rfl, by decide +kernel, rfl, by decide +kernel, by decide +kernel⟩
theorem der_late_by {P : Program} {w : World} {K : PySem.W.Frag} {mg : Str → Option Value} {base : Heap} {A : Around} {outer : List Env} {s : Shared} {H : Hp} {E : XK} {f : Addr} {cdv : Value} (T : Txt K mg) (d_last_day : Def P w K mg base 1 "last_day" (sp_last_day K))
    (hr : Room 1 (A.deeper (envOfC "late_by" (defScope s_late_by) s.heap.objs.size f cdv))) :
    PSs (cxOf CX0 P w K mg base N_late_by "late_by" (defScope s_late_by) f cdv A outer s H E).nox (defBody s_late_by) (t_late_by K) :=
  (pss_one (ps_ret (pe_callB (call_max2 rfl) rfl T.max bt_max (pa_cons pe_int (pa_cons (pe_op op_sub (pe_fld (pv 0) rfl) (pe_callN d_last_day (hr.mono (by decide)) rfl (pa_cons (pv 1) pa_nil))) pa_nil)))))
end Pl

namespace Pl
open PySem PySem.Spec PyProof.Rows L2
theorem sc_others_of : FnScope N_others_of ["lib", "work", "but"] (defScope s_others_of) := ⟨rfl, rfl, rfl, by decide +kernel, rfl, by decide +kernel, by decide +kernel⟩
theorem der_others_of {P : Program} {w : World} {K : PySem.W.Frag} {mg : Str → Option Value} {base : Heap} {A : Around} {outer : List Env} {s : Shared} {H : Hp} {E : XK} {f : Addr} {cdv : Value} (T : Txt K mg) (d_is_on : Def P w K mg base 1 "is_on" (sp_is_on K))
    (hr : Room 1 (A.deeper (envOfC "others_of" (defScope s_others_of) s.heap.objs.size f cdv))) :
    PSs (cxOf CX0 P w K mg base N_others_of "others_of" (defScope s_others_of) f cdv A outer s H E).nox (defBody s_others_of) (t_others_of K) :=
  (pss_cons (ps_set (i := 3) sc_others_of.nd rfl (by first | exact Or.inl rfl | exact Or.inr rfl) (pe_lst pa_nil))
    (pss_cons (ps_for PassesOwn.never rfl (pi_enum rfl T.enumerate (pa_cons (pe_fld (pv 0) rfl) pa_nil)) (pg_tup rfl (pgs_cons (pg_name (i := 4) sc_others_of.nd rfl (by first | exact Or.inl rfl | exact Or.inr rfl)) (pgs_cons (pg_name (i := 5) sc_others_of.nd rfl (by first | exact Or.inl rfl | exact Or.inr rfl)) pgs_nil))) (pss_one (ps_if (PW.pt (pw_and (pt_cmpR op_ne (pv 4) (pv 2) (nomark _)) (pw_and (pt_cmpR op_eq (pe_fld (pv 5) rfl) (pv 1) (nomark _)) (pw_and1 (pt_val (pe_callN d_is_on (hr.mono (by decide)) rfl (pa_cons (pv 5) pa_nil))))))) (pss_one (ps_expr (pe_bm PySem.F.plainAttrs_list PySem.F.slot_list_append PySem.F.type_list_append mt_append (pv 3) (pa_cons (pv 5) pa_nil)))) pss_nil)))
    (pss_one (ps_ret (pv 3)))))
theorem sc_lack_of : FnScope N_lack_of ["kit", "desks"] (defScope s_lack_of) := ⟨rfl, rfl, rfl, by decide +kernel, rfl, by decide +kernel, by decide +kernel⟩
theorem der_lack_of {P : Program} {w : World} {K : PySem.W.Frag} {mg : Str → Option Value} {base : Heap} {A : Around} {outer : List Env} {s : Shared} {H : Hp} {E : XK} {f : Addr} {cdv : Value} (T : Txt K mg) (d_there_of : Def P w K mg base 1 "there_of" (sp_there_of K))
    (hr : Room 1 (A.deeper (envOfC "lack_of" (defScope s_lack_of) s.heap.objs.size f cdv))) :
    PSs (cxOf CX0 P w K mg base N_lack_of "lack_of" (defScope s_lack_of) f cdv A outer s H E).nox (defBody s_lack_of) (t_lack_of K) :=
  (pss_cons (ps_set (i := 2) sc_lack_of.nd rfl (by first | exact Or.inl rfl | exact Or.inr rfl) (pe_callN d_there_of (hr.mono (by decide)) rfl (pa_cons (pv 0) pa_nil)))
    (pss_one (ps_ret (pe_lc (own := [("i", 3)]) (g := (gName 3)) (tt := tYes) rfl sc_lack_of.nd (pi_range1 rfl T.range (pa_cons (pe_gint T.SECTIONS rfl) pa_nil)) (blkOk_by (own := [("i", 3)]) (N := N_lack_of) (sc := defScope s_lack_of) (by decide +kernel)) (fun _ _ _ _ _ => (pg_name (i := 3) sc_lack_of.nd rfl (by first | exact Or.inl rfl | exact Or.inr rfl))) (fun _ _ _ _ _ => pts_nil) (fun _ _ _ _ _ => (pe_callB (call_max2 rfl) rfl T.max bt_max (pa_cons pe_int (pa_cons (pe_op op_sub (pe_ix ix_list (pv 1) (pv 3) (fun _ _ => rfl)) (pe_ix ix_list (pv 2) (pv 3) (fun _ _ => rfl))) pa_nil))))))))
theorem sc_extra_of : FnScope N_extra_of ["kit", "desks"] (defScope s_extra_of) := ⟨rfl, rfl, rfl, by decide +kernel, rfl, by decide +kernel, by decide +kernel⟩
theorem der_extra_of {P : Program} {w : World} {K : PySem.W.Frag} {mg : Str → Option Value} {base : Heap} {A : Around} {outer : List Env} {s : Shared} {H : Hp} {E : XK} {f : Addr} {cdv : Value} (T : Txt K mg) (d_there_of : Def P w K mg base 1 "there_of" (sp_there_of K))
    (hr : Room 1 (A.deeper (envOfC "extra_of" (defScope s_extra_of) s.heap.objs.size f cdv))) :
    PSs (cxOf CX0 P w K mg base N_extra_of "extra_of" (defScope s_extra_of) f cdv A outer s H E).nox (defBody s_extra_of) (t_extra_of K) :=
  (pss_cons (ps_set (i := 2) sc_extra_of.nd rfl (by first | exact Or.inl rfl | exact Or.inr rfl) (pe_callN d_there_of (hr.mono (by decide)) rfl (pa_cons (pv 0) pa_nil)))
    (pss_one (ps_ret (pe_callB (cr_sum rfl) rfl T.sum bt_sum (pa_cons (pe_lc (own := [("i", 3)]) (g := (gName 3)) (tt := tYes) rfl sc_extra_of.nd (pi_range1 rfl T.range (pa_cons (pe_gint T.SECTIONS rfl) pa_nil)) (blkOk_by (own := [("i", 3)]) (N := N_extra_of) (sc := defScope s_extra_of) (by decide +kernel)) (fun _ _ _ _ _ => (pg_name (i := 3) sc_extra_of.nd rfl (by first | exact Or.inl rfl | exact Or.inr rfl))) (fun _ _ _ _ _ => pts_nil) (fun _ _ _ _ _ => (pe_callB (call_max2 rfl) rfl T.max bt_max (pa_cons pe_int (pa_cons (pe_op op_sub (pe_ix ix_list (pv 2) (pv 3) (fun _ _ => rfl)) (pe_ix ix_list (pv 1) (pv 3) (fun _ _ => rfl))) pa_nil))))) pa_nil)))))
theorem sc_sent_of : FnScope N_sent_of ["lib", "hiring"] (defScope s_sent_of) := ⟨rfl, rfl, rfl, by decide +kernel, rfl, by decide +kernel, by decide +kernel⟩
theorem der_sent_of {P : Program} {w : World} {K : PySem.W.Frag} {mg : Str → Option Value} {base : Heap} {A : Around} {outer : List Env} {s : Shared} {H : Hp} {E : XK} {f : Addr} {cdv : Value} (T : Txt K mg) (d_there_of : Def P w K mg base 1 "there_of" (sp_there_of K))
    (hr : Room 1 (A.deeper (envOfC "sent_of" (defScope s_sent_of) s.heap.objs.size f cdv))) :
    PSs (cxOf CX0 P w K mg base N_sent_of "sent_of" (defScope s_sent_of) f cdv A outer s H E).nox (defBody s_sent_of) (t_sent_of K) :=
  (pss_cons (ps_set (i := 2) sc_sent_of.nd rfl (by first | exact Or.inl rfl | exact Or.inr rfl) (pe_callN d_there_of (hr.mono (by decide)) rfl (pa_cons (pe_ix ix_list (pe_fld (pv 0) rfl) (pe_fld (pv 1) rfl) (fun _ _ => rfl)) pa_nil)))
    (pss_one (ps_ret (pe_lc (own := [("i", 3)]) (g := (gName 3)) (tt := tYes) rfl sc_sent_of.nd (pi_range1 rfl T.range (pa_cons (pe_gint T.SECTIONS rfl) pa_nil)) (blkOk_by (own := [("i", 3)]) (N := N_sent_of) (sc := defScope s_sent_of) (by decide +kernel)) (fun _ _ _ _ _ => (pg_name (i := 3) sc_sent_of.nd rfl (by first | exact Or.inl rfl | exact Or.inr rfl))) (fun _ _ _ _ _ => pts_nil) (fun _ _ _ _ _ => (pe_op op_add (pe_ix ix_list (pv 2) (pv 3) (fun _ _ => rfl)) (pe_ix ix_list (pe_fld (pv 1) rfl) (pv 3) (fun _ _ => rfl))))))))
theorem sc_replace : FnScope N_replace ["lib", "numbers", "lists"] (defScope s_replace) := ⟨rfl, rfl, rfl, by decide +kernel, rfl, by decide +kernel, by decide +kernel⟩
theorem der_replace {P : Program} {w : World} {K : PySem.W.Frag} {mg : Str → Option Value} {base : Heap} {A : Around} {outer : List Env} {s : Shared} {H : Hp} {E : XK} {f : Addr} {cdv : Value} (T : Txt K mg) (d_is_out : Def P w K mg base 1 "is_out" (sp_is_out K))
    (hr : Room 1 (A.deeper (envOfC "replace" (defScope s_replace) s.heap.objs.size f cdv))) :
    PSs (cxOf CX0 P w K mg base N_replace "replace" (defScope s_replace) f cdv A outer s H E).nox (defBody s_replace) (t_replace K) :=
  (pss_cons (ps_set (i := 3) sc_replace.nd rfl (by first | exact Or.inl rfl | exact Or.inr rfl) (pe_ix ix_list (pv 1) pe_int (fun _ _ => rfl)))
    (pss_cons (ps_if (pt_cmpR op_ge (pv 3) (pe_callB call_len_seq rfl T.len bt_len (pa_cons (pe_fld (pv 0) rfl) pa_nil)) (nomark _)) (pss_one (ps_ret (pe_lst (pa_cons (pe_gint T.NONE_SUCH rfl) pa_nil)))) pss_nil)
    (pss_cons (ps_if (pt_val (pe_callN d_is_out (hr.mono (by decide)) rfl (pa_cons (pv 0) (pa_cons (pv 3) pa_nil)))) (pss_one (ps_ret (pe_lst (pa_cons (pe_gint T.ALREADY rfl) pa_nil)))) pss_nil)
    (pss_cons (ps_set (i := 4) sc_replace.nd rfl (by first | exact Or.inl rfl | exact Or.inr rfl) (pe_ix ix_list (pe_fld (pv 0) rfl) (pv 3) (fun _ _ => rfl)))
    (pss_cons (ps_set (i := 5) sc_replace.nd rfl (by first | exact Or.inl rfl | exact Or.inr rfl) (pe_op op_add (pe_callB call_len_seq rfl T.len bt_len (pa_cons (pe_fld (pv 4) rfl) pa_nil)) (pe_callB (cr_sum rfl) rfl T.sum bt_sum (pa_cons (pe_fld (pv 4) rfl) pa_nil))))
    (pss_cons (ps_if (pt_cmpR op_eq (pv 5) pe_int (nomark _)) (pss_one (ps_ret (pe_lst (pa_cons (pe_gint T.NOTHING rfl) pa_nil)))) pss_nil)
    (pss_cons (ps_fldaug (pv 0) (pe_op op_mul (pv 5) (pe_fld (pe_ix ix_list (pe_fld (pv 0) rfl) (pe_fld (pv 4) rfl) (fun _ _ => rfl)) rfl)) in_add)
    (pss_cons (ps_fld (pv 4) (pe_lst pa_nil) rfl)
    (pss_cons (ps_fld (pv 4) (pe_op op_rep (pe_lst (pa_cons pe_int pa_nil)) (pe_gint T.SECTIONS rfl)) rfl)
    (pss_one (ps_ret (pe_lst (pa_cons (pv 5) pa_nil)))))))))))))
theorem sc_rub : FnScope N_rub ["lib", "numbers", "lists"] (defScope s_rub) := ⟨rfl, rfl, rfl, by decide +kernel, rfl, by decide +kernel, by decide +kernel⟩
theorem der_rub {P : Program} {w : World} {K : PySem.W.Frag} {mg : Str → Option Value} {base : Heap} {A : Around} {outer : List Env} {s : Shared} {H : Hp} {E : XK} {f : Addr} {cdv : Value} (T : Txt K mg) (d_is_out : Def P w K mg base 1 "is_out" (sp_is_out K))
    (hr : Room 1 (A.deeper (envOfC "rub" (defScope s_rub) s.heap.objs.size f cdv))) :
    PSs (cxOf CX0 P w K mg base N_rub "rub" (defScope s_rub) f cdv A outer s H E).nox (defBody s_rub) (t_rub K) :=
  (pss_cons (ps_set (i := 3) sc_rub.nd rfl (by first | exact Or.inl rfl | exact Or.inr rfl) (pe_ix ix_list (pv 1) pe_int (fun _ _ => rfl)))
    (pss_cons (ps_if (pt_cmpR op_ge (pv 3) (pe_callB call_len_seq rfl T.len bt_len (pa_cons (pe_fld (pv 0) rfl) pa_nil)) (nomark _)) (pss_one (ps_ret (pe_lst (pa_cons (pe_gint T.NONE_SUCH rfl) pa_nil)))) pss_nil)
    (pss_cons (ps_if (pt_val (pe_callN d_is_out (hr.mono (by decide)) rfl (pa_cons (pv 0) (pa_cons (pv 3) pa_nil)))) (pss_one (ps_ret (pe_lst (pa_cons (pe_gint T.ALREADY rfl) pa_nil)))) pss_nil)
    (pss_cons (ps_set (i := 4) sc_rub.nd rfl (by first | exact Or.inl rfl | exact Or.inr rfl) (pe_ix ix_list (pe_fld (pv 0) rfl) (pv 3) (fun _ _ => rfl)))
    (pss_cons (ps_if (pt_cmpR op_eq (pe_fld (pv 4) rfl) pe_int (nomark _)) (pss_one (ps_ret (pe_lst (pa_cons (pe_gint T.NOTHING rfl) pa_nil)))) pss_nil)
    (pss_cons (ps_set (i := 5) sc_rub.nd rfl (by first | exact Or.inl rfl | exact Or.inr rfl) (pe_op op_sub (pe_fld (pv 4) rfl) pe_int))
    (pss_cons (ps_fld (pv 4) pe_int rfl)
    (pss_one (ps_ret (pe_lst (pa_cons (pv 5) pa_nil)))))))))))
theorem sc_why_not_asked : FnScope N_why_not_asked ["lib", "numbers", "desks"] (defScope s_why_not_asked) := ⟨rfl, rfl, rfl, by decide +kernel, rfl, by decide +kernel, by decide +kernel⟩
theorem der_why_not_asked {P : Program} {w : World} {K : PySem.W.Frag} {mg : Str → Option Value} {base : Heap} {A : Around} {outer : List Env} {s : Shared} {H : Hp} {E : XK} {f : Addr} {cdv : Value} (T : Txt K mg) (d_are_days_right : Def P w K mg base 1 "are_days_right" (sp_are_days_right K)) (d_are_parts : Def P w K mg base 1 "are_parts" (sp_are_parts K))
    (hr : Room 1 (A.deeper (envOfC "why_not_asked" (defScope s_why_not_asked) s.heap.objs.size f cdv))) :
    PSs (cxOf CX0 P w K mg base N_why_not_asked "why_not_asked" (defScope s_why_not_asked) f cdv A outer s H E).nox (defBody s_why_not_asked) (t_why_not_asked K) :=
  (pss_cons (ps_asg (pv 1) (pg_lst rfl (pgs_cons (pg_name (i := 3) sc_why_not_asked.nd rfl (by first | exact Or.inl rfl | exact Or.inr rfl)) (pgs_cons (pg_name (i := 4) sc_why_not_asked.nd rfl (by first | exact Or.inl rfl | exact Or.inr rfl)) (pgs_cons (pg_name (i := 5) sc_why_not_asked.nd rfl (by first | exact Or.inl rfl | exact Or.inr rfl)) pgs_nil)))))
    (pss_cons (ps_if (pt_cmpR op_ge (pv 3) (pe_callB call_len_seq rfl T.len bt_len (pa_cons (pe_fld (pv 0) rfl) pa_nil)) (nomark _)) (pss_one (ps_ret (pe_gint T.NONE_SUCH rfl))) pss_nil)
    (pss_one (ps_ret (pe_ifExp (PW.pt (pw_and (pt_val (pe_callN d_are_days_right (hr.mono (by decide)) rfl (pa_cons (pv 0) (pa_cons (pv 4) (pa_cons (pv 5) pa_nil))))) (pw_and1 (pt_val (pe_callN d_are_parts (hr.mono (by decide)) rfl (pa_cons (pv 2) pa_nil)))))) pe_int (pe_gint T.OUT_OF_RANGE rfl))))))
theorem sc_plan : FnScope N_plan ["lib", "numbers", "lists"] (defScope s_plan) := ⟨rfl, rfl, rfl, by decide +kernel, rfl, by decide +kernel, by decide +kernel⟩
theorem der_plan {P : Program} {w : World} {K : PySem.W.Frag} {mg : Str → Option Value} {base : Heap} {A : Around} {outer : List Env} {s : Shared} {H : Hp} {E : XK} {f : Addr} {cdv : Value} (T : Txt K mg) (d_is_on : Def P w K mg base 1 "is_on" (sp_is_on K))
    (hr : Room 1 (A.deeper (envOfC "plan" (defScope s_plan) s.heap.objs.size f cdv))) :
    PSs (cxOf CX0 P w K mg base N_plan "plan" (defScope s_plan) f cdv A outer s H E).nox (defBody s_plan) (t_plan K) :=
  (pss_cons (ps_if (pt_cmpR op_ge (pe_ix ix_list (pv 1) pe_int (fun _ _ => rfl)) (pe_callB call_len_seq rfl T.len bt_len (pa_cons (pe_fld (pv 0) rfl) pa_nil)) (nomark _)) (pss_one (ps_ret (pe_lst (pa_cons (pe_gint T.NONE_SUCH rfl) pa_nil)))) pss_nil)
    (pss_cons (ps_setLc (i := 5) (own := [("at", 3), ("hiring", 4)]) (g := (gTup K 2 (gCons (gName 3) (gCons (gName 4) gNil)))) (tt := (tAnd (tTest (tOp rEq (tFld K (tVar 4) "kit") (tOp (rIxL K) (tVar 1) (tC (.int 0))))) (tB (tCall (sp_is_on K) [] E0 (tCons (tVar 4) tNil))))) rfl sc_plan.nd rfl rfl (sw_true rfl rfl rfl (by decide +kernel)) (pi_enum rfl T.enumerate (pa_cons (pe_fld (pv 0) rfl) pa_nil)) (blkOk_by (own := [("at", 3), ("hiring", 4)]) (N := N_plan) (sc := defScope s_plan) (by decide +kernel)) (fun _ _ _ _ _ => (pg_tup rfl (pgs_cons (pg_name (i := 3) sc_plan.nd rfl (by first | exact Or.inl rfl | exact Or.inr rfl)) (pgs_cons (pg_name (i := 4) sc_plan.nd rfl (by first | exact Or.inl rfl | exact Or.inr rfl)) pgs_nil)))) (fun _ _ _ _ _ => (pts_one (PW.pt (pw_and (pt_cmpR op_eq (pe_fld (pv 4) rfl) (pe_ix ix_list (pv 1) pe_int (fun _ _ => rfl)) (nomark _)) (pw_and1 (pt_val (pe_callN d_is_on (hr.mono (by decide)) rfl (pa_cons (pv 4) pa_nil)))))))) (fun _ _ _ _ _ => (pe_tup (pa_cons (pe_fld (pv 4) rfl) (pa_cons (pv 3) pa_nil)))))
    (pss_one (ps_ret (pe_op op_cat (pe_lst (pa_cons (pe_callB call_len_seq rfl T.len bt_len (pa_cons (pv 5) pa_nil)) pa_nil)) (pe_lc (own := [("first", 6), ("at", 3)]) (g := (gTup K 2 (gCons (gName 6) (gCons (gName 3) gNil)))) (tt := tYes) rfl sc_plan.nd (pi_list (pe_callB cr_sortedPO rfl T.sorted bt_sorted (pa_cons (pv 5) pa_nil))) (blkOk_by (own := [("first", 6), ("at", 3)]) (N := N_plan) (sc := defScope s_plan) (by decide +kernel)) (fun _ _ _ _ _ => (pg_tup rfl (pgs_cons (pg_name (i := 6) sc_plan.nd rfl (by first | exact Or.inl rfl | exact Or.inr rfl)) (pgs_cons (pg_name (i := 3) sc_plan.nd rfl (by first | exact Or.inl rfl | exact Or.inr rfl)) pgs_nil)))) (fun _ _ _ _ _ => pts_nil) (fun _ _ _ _ _ => (pv 3))))))))
theorem sc_due : FnScope N_due ["lib", "numbers", "lists"] (defScope s_due) := ⟨rfl, rfl, rfl, by decide +kernel, rfl, by decide +kernel, by decide +kernel⟩
theorem der_due {P : Program} {w : World} {K : PySem.W.Frag} {mg : Str → Option Value} {base : Heap} {A : Around} {outer : List Env} {s : Shared} {H : Hp} {E : XK} {f : Addr} {cdv : Value} (T : Txt K mg) (d_last_day : Def P w K mg base 1 "last_day" (sp_last_day K))
    (hr : Room 1 (A.deeper (envOfC "due" (defScope s_due) s.heap.objs.size f cdv))) :
    PSs (cxOf CX0 P w K mg base N_due "due" (defScope s_due) f cdv A outer s H E).nox (defBody s_due) (t_due K) :=
  (pss_cons (ps_setLc (i := 5) (own := [("at", 3), ("hiring", 4)]) (g := (gTup K 2 (gCons (gName 3) (gCons (gName 4) gNil)))) (tt := (tAnd (tTest (tOp rEq (tFld K (tVar 4) "how") (tC (.int (1))))) (tTest (tOp rLeI (tCall (sp_last_day K) [] E0 (tCons (tVar 4) tNil)) (tFld K (tVar 0) "today"))))) rfl sc_due.nd rfl rfl (sw_true rfl rfl rfl (by decide +kernel)) (pi_enum rfl T.enumerate (pa_cons (pe_fld (pv 0) rfl) pa_nil)) (blkOk_by (own := [("at", 3), ("hiring", 4)]) (N := N_due) (sc := defScope s_due) (by decide +kernel)) (fun _ _ _ _ _ => (pg_tup rfl (pgs_cons (pg_name (i := 3) sc_due.nd rfl (by first | exact Or.inl rfl | exact Or.inr rfl)) (pgs_cons (pg_name (i := 4) sc_due.nd rfl (by first | exact Or.inl rfl | exact Or.inr rfl)) pgs_nil)))) (fun _ _ _ _ _ => (pts_one (PW.pt (pw_and (pt_cmpR op_eq (pe_fld (pv 4) rfl) (pe_gint T.OUT rfl) (nomark _)) (pw_and1 (pt_cmpR op_le (pe_callN d_last_day (hr.mono (by decide)) rfl (pa_cons (pv 4) pa_nil)) (pe_fld (pv 0) rfl) (nomark _))))))) (fun _ _ _ _ _ => (pv 3)))
    (pss_one (ps_ret (pe_op op_cat (pe_lst (pa_cons (pe_callB call_len_seq rfl T.len bt_len (pa_cons (pv 5) pa_nil)) pa_nil)) (pv 5)))))
end Pl

namespace Pl
open PySem PySem.Spec PyProof.Rows L2
theorem sc_has : FnScope N_has ["lib", "numbers", "lists"] (defScope s_has) := ⟨rfl, rfl, rfl, by decide +kernel, rfl, by decide +kernel, by decide +kernel⟩
theorem der_has {P : Program} {w : World} {K : PySem.W.Frag} {mg : Str → Option Value} {base : Heap} {A : Around} {outer : List Env} {s : Shared} {H : Hp} {E : XK} {f : Addr} {cdv : Value} (T : Txt K mg) (d_there_of : Def P w K mg base 1 "there_of" (sp_there_of K))
    (hr : Room 1 (A.deeper (envOfC "has" (defScope s_has) s.heap.objs.size f cdv))) :
    PSs (cxOf CX0 P w K mg base N_has "has" (defScope s_has) f cdv A outer s H E).nox (defBody s_has) (t_has K) :=
  (pss_cons (ps_if (pt_cmpR op_ge (pe_ix ix_list (pv 1) pe_int (fun _ _ => rfl)) (pe_callB call_len_seq rfl T.len bt_len (pa_cons (pe_fld (pv 0) rfl) pa_nil)) (nomark _)) (pss_one (ps_ret (pe_lst (pa_cons (pe_gint T.NONE_SUCH rfl) pa_nil)))) pss_nil)
    (pss_cons (ps_set (i := 3) sc_has.nd rfl (by first | exact Or.inl rfl | exact Or.inr rfl) (pe_ix ix_list (pe_fld (pv 0) rfl) (pe_ix ix_list (pv 1) pe_int (fun _ _ => rfl)) (fun _ _ => rfl)))
    (pss_one (ps_ret (pe_op op_cat (pe_lst (pa_cons (pe_op op_sub (pe_fld (pe_ix ix_list (pe_fld (pv 0) rfl) (pe_fld (pv 3) rfl) (fun _ _ => rfl)) rfl) (pe_callB call_len_seq rfl T.len bt_len (pa_cons (pe_fld (pv 3) rfl) pa_nil))) pa_nil)) (pe_callN d_there_of (hr.mono (by decide)) rfl (pa_cons (pv 3) pa_nil)))))))
theorem sc_shelf : FnScope N_shelf ["lib", "numbers", "lists"] (defScope s_shelf) := ⟨rfl, rfl, rfl, by decide +kernel, rfl, by decide +kernel, by decide +kernel⟩
theorem der_shelf {P : Program} {w : World} {K : PySem.W.Frag} {mg : Str → Option Value} {base : Heap} {A : Around} {outer : List Env} {s : Shared} {H : Hp} {E : XK} {f : Addr} {cdv : Value} (T : Txt K mg) (d_is_out : Def P w K mg base 1 "is_out" (sp_is_out K))
    (hr : Room 1 (A.deeper (envOfC "shelf" (defScope s_shelf) s.heap.objs.size f cdv))) :
    PSs (cxOf CX0 P w K mg base N_shelf "shelf" (defScope s_shelf) f cdv A outer s H E).nox (defBody s_shelf) (t_shelf K) :=
  (pss_cons (ps_setLc (i := 4) (own := [("at", 3)]) (g := (gName 3)) (tt := (tNot (tB (tCall (sp_is_out K) [] E0 (tCons (tVar 0) (tCons (tVar 3) tNil)))))) rfl sc_shelf.nd rfl rfl (sw_true rfl rfl rfl (by decide +kernel)) (pi_range1 rfl T.range (pa_cons (pe_callB call_len_seq rfl T.len bt_len (pa_cons (pe_fld (pv 0) rfl) pa_nil)) pa_nil)) (blkOk_by (own := [("at", 3)]) (N := N_shelf) (sc := defScope s_shelf) (by decide +kernel)) (fun _ _ _ _ _ => (pg_name (i := 3) sc_shelf.nd rfl (by first | exact Or.inl rfl | exact Or.inr rfl))) (fun _ _ _ _ _ => (pts_one (pt_not (pt_val (pe_callN d_is_out (hr.mono (by decide)) rfl (pa_cons (pv 0) (pa_cons (pv 3) pa_nil))))))) (fun _ _ _ _ _ => (pv 3)))
    (pss_one (ps_ret (pe_op op_cat (pe_lst (pa_cons (pe_callB call_len_seq rfl T.len bt_len (pa_cons (pv 4) pa_nil)) pa_nil)) (pv 4)))))
theorem sc_has_on : FnScope N_has_on ["lib", "hiring", "day"] (defScope s_has_on) := ⟨rfl, rfl, rfl, by decide +kernel, rfl, by decide +kernel, by decide +kernel⟩
theorem der_has_on {P : Program} {w : World} {K : PySem.W.Frag} {mg : Str → Option Value} {base : Heap} {A : Around} {outer : List Env} {s : Shared} {H : Hp} {E : XK} {f : Addr} {cdv : Value} (T : Txt K mg) (d_is_on : Def P w K mg base 1 "is_on" (sp_is_on K)) (d_over_day : Def P w K mg base 2 "over_day" (sp_over_day K))
    (hr : Room 2 (A.deeper (envOfC "has_on" (defScope s_has_on) s.heap.objs.size f cdv))) :
    PSs (cxOf CX0 P w K mg base N_has_on "has_on" (defScope s_has_on) f cdv A outer s H E).nox (defBody s_has_on) (t_has_on K) :=
  (pss_one (ps_ret (pe_and (pe_callN d_is_on (hr.mono (by decide)) rfl (pa_cons (pv 1) pa_nil)) (pe_one (pe_chain op_le op_lt (pe_fld (pv 1) rfl) (pv 2) (pe_callN d_over_day (hr.mono (by decide)) rfl (pa_cons (pv 0) (pa_cons (pv 1) pa_nil))))))))
theorem sc_is_kit_free : FnScope N_is_kit_free ["lib", "at", "first", "end", "but"] (defScope s_is_kit_free) := ⟨rfl, rfl, rfl, by decide +kernel, rfl, by decide +kernel, by decide +kernel⟩
theorem der_is_kit_free {P : Program} {w : World} {K : PySem.W.Frag} {mg : Str → Option Value} {base : Heap} {A : Around} {outer : List Env} {s : Shared} {H : Hp} {E : XK} {f : Addr} {cdv : Value} (T : Txt K mg) (d_is_on : Def P w K mg base 1 "is_on" (sp_is_on K)) (d_over_day : Def P w K mg base 2 "over_day" (sp_over_day K))
    (hr : Room 2 (A.deeper (envOfC "is_kit_free" (defScope s_is_kit_free) s.heap.objs.size f cdv))) :
    PSs (cxOf CX0 P w K mg base N_is_kit_free "is_kit_free" (defScope s_is_kit_free) f cdv A outer s H E).nox (defBody s_is_kit_free) (t_is_kit_free K) :=
  (pss_cons (ps_for PassesOwn.never rfl (pi_enum rfl T.enumerate (pa_cons (pe_fld (pv 0) rfl) pa_nil)) (pg_tup rfl (pgs_cons (pg_name (i := 5) sc_is_kit_free.nd rfl (by first | exact Or.inl rfl | exact Or.inr rfl)) (pgs_cons (pg_name (i := 6) sc_is_kit_free.nd rfl (by first | exact Or.inl rfl | exact Or.inr rfl)) pgs_nil))) (pss_one (ps_if (PW.pt (pw_and (pt_cmpR op_ne (pv 5) (pv 4) (nomark _)) (pw_and (pt_cmpR op_eq (pe_fld (pv 6) rfl) (pv 1) (nomark _)) (pw_and1 (pt_val (pe_callN d_is_on (hr.mono (by decide)) rfl (pa_cons (pv 6) pa_nil))))))) (pss_one (ps_if (PW.pt (pw_and (pt_cmpR op_lt (pe_fld (pv 6) rfl) (pv 3) (nomark _)) (pw_and1 (pt_cmpR op_lt (pv 2) (pe_callN d_over_day (hr.mono (by decide)) rfl (pa_cons (pv 0) (pa_cons (pv 6) pa_nil))) (nomark _))))) (pss_one (ps_ret pe_bl)) pss_nil)) pss_nil)))
    (pss_one (ps_ret pe_bl)))
theorem sc_rank_of : FnScope N_rank_of ["lib", "at", "desks"] (defScope s_rank_of) := ⟨rfl, rfl, rfl, by decide +kernel, rfl, by decide +kernel, by decide +kernel⟩
theorem der_rank_of {P : Program} {w : World} {K : PySem.W.Frag} {mg : Str → Option Value} {base : Heap} {A : Around} {outer : List Env} {s : Shared} {H : Hp} {E : XK} {f : Addr} {cdv : Value} (T : Txt K mg) (d_extra_of : Def P w K mg base 2 "extra_of" (sp_extra_of K)) (d_lack_of : Def P w K mg base 2 "lack_of" (sp_lack_of K))
    (hr : Room 2 (A.deeper (envOfC "rank_of" (defScope s_rank_of) s.heap.objs.size f cdv))) :
    PSs (cxOf CX0 P w K mg base N_rank_of "rank_of" (defScope s_rank_of) f cdv A outer s H E).nox (defBody s_rank_of) (t_rank_of K) :=
  (pss_cons (ps_set (i := 3) sc_rank_of.nd rfl (by first | exact Or.inl rfl | exact Or.inr rfl) (pe_ix ix_list (pe_fld (pv 0) rfl) (pv 1) (fun _ _ => rfl)))
    (pss_one (ps_ret (pe_tup (pa_cons (pe_callB (cr_sum rfl) rfl T.sum bt_sum (pa_cons (pe_callN d_lack_of (hr.mono (by decide)) rfl (pa_cons (pv 3) (pa_cons (pv 2) pa_nil))) pa_nil)) (pa_cons (pe_callN d_extra_of (hr.mono (by decide)) rfl (pa_cons (pv 3) (pa_cons (pv 2) pa_nil))) (pa_cons (pv 1) pa_nil)))))))
theorem sc_put_work : FnScope N_put_work ["lib", "numbers", "lists"] (defScope s_put_work) := ⟨rfl, rfl, rfl, by decide +kernel, rfl, by decide +kernel, by decide +kernel⟩
theorem der_put_work {P : Program} {w : World} {K : PySem.W.Frag} {mg : Str → Option Value} {base : Heap} {A : Around} {outer : List Env} {s : Shared} {H : Hp} {E : XK} {f : Addr} {cdv : Value} (T : Txt K mg) (d_init_Work : Ini P w K mg base 1 "Work" (sp_init_Work K))
    (hr : Room 2 (A.deeper (envOfC "put_work" (defScope s_put_work) s.heap.objs.size f cdv))) :
    PSs (cxOf CX0 P w K mg base N_put_work "put_work" (defScope s_put_work) f cdv A outer s H E).nox (defBody s_put_work) (t_put_work K) :=
  (pss_cons (ps_asg (pv 1) (pg_lst rfl (pgs_cons (pg_name (i := 3) sc_put_work.nd rfl (by first | exact Or.inl rfl | exact Or.inr rfl)) (pgs_cons (pg_name (i := 4) sc_put_work.nd rfl (by first | exact Or.inl rfl | exact Or.inr rfl)) (pgs_cons (pg_name (i := 5) sc_put_work.nd rfl (by first | exact Or.inl rfl | exact Or.inr rfl)) (pgs_cons (pg_name (i := 6) sc_put_work.nd rfl (by first | exact Or.inl rfl | exact Or.inr rfl)) pgs_nil))))))
    (pss_cons (ps_if (PW.pt (pw_or (pt_cmpR op_gt (pv 3) (pe_gint T.MOST_WINDS rfl) (nomark _)) (pw_or (pt_cmpR op_gt (pv 4) (pe_gint T.MOST_FEE rfl) (nomark _)) (pw_or (pt_cmpR op_gt (pv 5) (pe_gint T.MOST_FEE rfl) (nomark _)) (pw_or1 (pt_cmpR op_gt (pv 6) (pe_gint T.MOST_PRICE rfl) (nomark _))))))) (pss_one (ps_ret (pe_lst (pa_cons (pe_gint T.OUT_OF_RANGE rfl) pa_nil)))) pss_nil)
    (pss_cons (ps_if (pt_cmpR op_eq (pe_callB call_len_seq rfl T.len bt_len (pa_cons (pe_fld (pv 0) rfl) pa_nil)) (pe_gint T.MOST_WORKS rfl) (nomark _)) (pss_one (ps_ret (pe_lst (pa_cons (pe_gint T.TOO_MANY rfl) pa_nil)))) pss_nil)
    (pss_cons (ps_expr (pe_bm PySem.F.plainAttrs_list PySem.F.slot_list_append PySem.F.type_list_append mt_append (pe_fld (pv 0) rfl) (pa_cons (pe_makeN d_init_Work (hr.mono (by decide)) rfl (pa_cons (pv 3) (pa_cons (pv 4) (pa_cons (pv 5) (pa_cons (pv 6) pa_nil))))) pa_nil)))
    (pss_one (ps_ret (pe_lst (pa_cons (pe_op op_sub (pe_callB call_len_seq rfl T.len bt_len (pa_cons (pe_fld (pv 0) rfl) pa_nil)) pe_int) pa_nil))))))))
theorem sc_put_kit : FnScope N_put_kit ["lib", "numbers", "lists"] (defScope s_put_kit) := ⟨rfl, rfl, rfl, by decide +kernel, rfl, by decide +kernel, by decide +kernel⟩
theorem der_put_kit {P : Program} {w : World} {K : PySem.W.Frag} {mg : Str → Option Value} {base : Heap} {A : Around} {outer : List Env} {s : Shared} {H : Hp} {E : XK} {f : Addr} {cdv : Value} (T : Txt K mg) (d_are_parts : Def P w K mg base 1 "are_parts" (sp_are_parts K)) (d_init_Kit : Ini P w K mg base 1 "Kit" (sp_init_Kit K))
    (hr : Room 2 (A.deeper (envOfC "put_kit" (defScope s_put_kit) s.heap.objs.size f cdv))) :
    PSs (cxOf CX0 P w K mg base N_put_kit "put_kit" (defScope s_put_kit) f cdv A outer s H E).nox (defBody s_put_kit) (t_put_kit K) :=
  (pss_cons (ps_set (i := 3) sc_put_kit.nd rfl (by first | exact Or.inl rfl | exact Or.inr rfl) (pe_ix ix_list (pv 1) pe_int (fun _ _ => rfl)))
    (pss_cons (ps_if (pt_cmpR op_ge (pv 3) (pe_callB call_len_seq rfl T.len bt_len (pa_cons (pe_fld (pv 0) rfl) pa_nil)) (nomark _)) (pss_one (ps_ret (pe_lst (pa_cons (pe_gint T.NONE_SUCH rfl) pa_nil)))) pss_nil)
    (pss_cons (ps_if (pt_not (pt_val (pe_callN d_are_parts (hr.mono (by decide)) rfl (pa_cons (pe_ix ix_list (pv 2) pe_int (fun _ _ => rfl)) pa_nil)))) (pss_one (ps_ret (pe_lst (pa_cons (pe_gint T.OUT_OF_RANGE rfl) pa_nil)))) pss_nil)
    (pss_cons (ps_if (pt_cmpR op_eq (pe_callB call_len_seq rfl T.len bt_len (pa_cons (pe_fld (pv 0) rfl) pa_nil)) (pe_gint T.MOST_KITS rfl) (nomark _)) (pss_one (ps_ret (pe_lst (pa_cons (pe_gint T.TOO_MANY rfl) pa_nil)))) pss_nil)
    (pss_cons (ps_expr (pe_bm PySem.F.plainAttrs_list PySem.F.slot_list_append PySem.F.type_list_append mt_append (pe_fld (pv 0) rfl) (pa_cons (pe_makeN d_init_Kit (hr.mono (by decide)) rfl (pa_cons (pv 3) (pa_cons (pe_callTy call_list_of rfl T.list bt_list (pa_cons (pe_ix ix_list (pv 2) pe_int (fun _ _ => rfl)) pa_nil)) pa_nil))) pa_nil)))
    (pss_one (ps_ret (pe_lst (pa_cons (pe_op op_sub (pe_callB call_len_seq rfl T.len bt_len (pa_cons (pe_fld (pv 0) rfl) pa_nil)) pe_int) pa_nil)))))))))
theorem sc_are_lost : FnScope N_are_lost ["lib", "hiring", "strings"] (defScope s_are_lost) := ⟨rfl, rfl, rfl, by decide +kernel, rfl, by decide +kernel, by decide +kernel⟩
theorem der_are_lost {P : Program} {w : World} {K : PySem.W.Frag} {mg : Str → Option Value} {base : Heap} {A : Around} {outer : List Env} {s : Shared} {H : Hp} {E : XK} {f : Addr} {cdv : Value} (T : Txt K mg) (d_sent_of : Def P w K mg base 2 "sent_of" (sp_sent_of K))
    (hr : Room 2 (A.deeper (envOfC "are_lost" (defScope s_are_lost) s.heap.objs.size f cdv))) :
    PSs (cxOf CX0 P w K mg base N_are_lost "are_lost" (defScope s_are_lost) f cdv A outer s H E).nox (defBody s_are_lost) (t_are_lost K) :=
  (pss_cons (ps_if (pt_cmpR op_ne (pe_callB call_len_seq rfl T.len bt_len (pa_cons (pv 2) pa_nil)) (pe_gint T.SECTIONS rfl) (nomark _)) (pss_one (ps_ret pe_bl)) pss_nil)
    (pss_cons (ps_set (i := 3) sc_are_lost.nd rfl (by first | exact Or.inl rfl | exact Or.inr rfl) (pe_callN d_sent_of (hr.mono (by decide)) rfl (pa_cons (pv 0) (pa_cons (pv 1) pa_nil))))
    (pss_one (ps_ret (pe_callB (cr_all rfl) rfl T.all bt_all (pa_cons (pe_lc (own := [("i", 4)]) (g := (gName 4)) (tt := tYes) rfl sc_are_lost.nd (pi_range1 rfl T.range (pa_cons (pe_gint T.SECTIONS rfl) pa_nil)) (blkOk_by (own := [("i", 4)]) (N := N_are_lost) (sc := defScope s_are_lost) (by decide +kernel)) (fun _ _ _ _ _ => (pg_name (i := 4) sc_are_lost.nd rfl (by first | exact Or.inl rfl | exact Or.inr rfl))) (fun _ _ _ _ _ => pts_nil) (fun _ _ _ _ _ => (pe_cmpR op_le (pe_ix ix_list (pv 2) (pv 4) (fun _ _ => rfl)) (pe_ix ix_list (pv 3) (pv 4) (fun _ _ => rfl)) (nomark _)))) pa_nil))))))
theorem sc_bill_of : FnScope N_bill_of ["lib", "hiring", "lost"] (defScope s_bill_of) := ⟨rfl, rfl, rfl, by decide +kernel, rfl, by decide +kernel, by decide +kernel⟩
theorem der_bill_of {P : Program} {w : World} {K : PySem.W.Frag} {mg : Str → Option Value} {base : Heap} {A : Around} {outer : List Env} {s : Shared} {H : Hp} {E : XK} {f : Addr} {cdv : Value} (T : Txt K mg) (d_late_by : Def P w K mg base 2 "late_by" (sp_late_by K))
    (hr : Room 2 (A.deeper (envOfC "bill_of" (defScope s_bill_of) s.heap.objs.size f cdv))) :
    PSs (cxOf CX0 P w K mg base N_bill_of "bill_of" (defScope s_bill_of) f cdv A outer s H E).nox (defBody s_bill_of) (t_bill_of K) :=
  (pss_cons (ps_set (i := 3) sc_bill_of.nd rfl (by first | exact Or.inl rfl | exact Or.inr rfl) (pe_ix ix_list (pe_fld (pv 0) rfl) (pe_fld (pv 1) rfl) (fun _ _ => rfl)))
    (pss_one (ps_ret (pe_op op_add (pe_op op_add (pe_op op_add (pe_fld (pv 3) rfl) (pe_op op_mul (pe_op op_sub (pe_fld (pv 1) rfl) pe_int) (pe_fld (pv 3) rfl))) (pe_op op_mul (pe_fld (pv 0) rfl) (pe_callN d_late_by (hr.mono (by decide)) rfl (pa_cons (pv 0) (pa_cons (pv 1) pa_nil))))) (pe_op op_mul (pe_fld (pv 3) rfl) (pv 2))))))
end Pl

namespace Pl
open PySem PySem.Spec PyProof.Rows L2
theorem sc_lacks : FnScope N_lacks ["lib", "numbers", "lists"] (defScope s_lacks) := ⟨rfl, rfl, rfl, by decide +kernel, rfl, by decide +kernel, by decide +kernel⟩
theorem der_lacks {P : Program} {w : World} {K : PySem.W.Frag} {mg : Str → Option Value} {base : Heap} {A : Around} {outer : List Env} {s : Shared} {H : Hp} {E : XK} {f : Addr} {cdv : Value} (T : Txt K mg) (d_lack_of : Def P w K mg base 2 "lack_of" (sp_lack_of K)) (d_are_parts : Def P w K mg base 1 "are_parts" (sp_are_parts K))
    (hr : Room 2 (A.deeper (envOfC "lacks" (defScope s_lacks) s.heap.objs.size f cdv))) :
    PSs (cxOf CX0 P w K mg base N_lacks "lacks" (defScope s_lacks) f cdv A outer s H E).nox (defBody s_lacks) (t_lacks K) :=
  (pss_cons (ps_if (pt_cmpR op_ge (pe_ix ix_list (pv 1) pe_int (fun _ _ => rfl)) (pe_callB call_len_seq rfl T.len bt_len (pa_cons (pe_fld (pv 0) rfl) pa_nil)) (nomark _)) (pss_one (ps_ret (pe_lst (pa_cons (pe_gint T.NONE_SUCH rfl) pa_nil)))) pss_nil)
    (pss_cons (ps_if (pt_not (pt_val (pe_callN d_are_parts (hr.mono (by decide)) rfl (pa_cons (pe_ix ix_list (pv 2) pe_int (fun _ _ => rfl)) pa_nil)))) (pss_one (ps_ret (pe_lst (pa_cons (pe_gint T.OUT_OF_RANGE rfl) pa_nil)))) pss_nil)
    (pss_cons (ps_set (i := 3) sc_lacks.nd rfl (by first | exact Or.inl rfl | exact Or.inr rfl) (pe_callN d_lack_of (hr.mono (by decide)) rfl (pa_cons (pe_ix ix_list (pe_fld (pv 0) rfl) (pe_ix ix_list (pv 1) pe_int (fun _ _ => rfl)) (fun _ _ => rfl)) (pa_cons (pe_ix ix_list (pv 2) pe_int (fun _ _ => rfl)) pa_nil))))
    (pss_one (ps_ret (pe_op op_cat (pe_lst (pa_cons (pe_callB (cr_sum rfl) rfl T.sum bt_sum (pa_cons (pv 3) pa_nil)) pa_nil)) (pv 3)))))))
theorem sc_late : FnScope N_late ["lib", "numbers", "lists"] (defScope s_late) := ⟨rfl, rfl, rfl, by decide +kernel, rfl, by decide +kernel, by decide +kernel⟩
theorem der_late {P : Program} {w : World} {K : PySem.W.Frag} {mg : Str → Option Value} {base : Heap} {A : Around} {outer : List Env} {s : Shared} {H : Hp} {E : XK} {f : Addr} {cdv : Value} (T : Txt K mg) (d_over_day : Def P w K mg base 2 "over_day" (sp_over_day K)) (d_late_by : Def P w K mg base 2 "late_by" (sp_late_by K))
    (hr : Room 2 (A.deeper (envOfC "late" (defScope s_late) s.heap.objs.size f cdv))) :
    PSs (cxOf CX0 P w K mg base N_late "late" (defScope s_late) f cdv A outer s H E).nox (defBody s_late) (t_late K) :=
  (pss_cons (ps_if (pt_cmpR op_ge (pe_ix ix_list (pv 1) pe_int (fun _ _ => rfl)) (pe_callB call_len_seq rfl T.len bt_len (pa_cons (pe_fld (pv 0) rfl) pa_nil)) (nomark _)) (pss_one (ps_ret (pe_lst (pa_cons (pe_gint T.NONE_SUCH rfl) pa_nil)))) pss_nil)
    (pss_cons (ps_set (i := 3) sc_late.nd rfl (by first | exact Or.inl rfl | exact Or.inr rfl) (pe_ix ix_list (pe_fld (pv 0) rfl) (pe_ix ix_list (pv 1) pe_int (fun _ _ => rfl)) (fun _ _ => rfl)))
    (pss_cons (ps_if (pt_cmpR op_ne (pe_fld (pv 3) rfl) (pe_gint T.OUT rfl) (nomark _)) (pss_one (ps_ret (pe_lst (pa_cons (pe_gint T.NOT_SO rfl) pa_nil)))) pss_nil)
    (pss_cons (ps_set (i := 4) sc_late.nd rfl (by first | exact Or.inl rfl | exact Or.inr rfl) (pe_callN d_over_day (hr.mono (by decide)) rfl (pa_cons (pv 0) (pa_cons (pv 3) pa_nil))))
    (pss_cons (ps_set (i := 5) sc_late.nd rfl (by first | exact Or.inl rfl | exact Or.inr rfl) (pe_listEnum rfl rfl T.list rfl T.enumerate (pe_fld (pv 0) rfl)))
    (pss_cons (ps_setLc (i := 8) (own := [("at", 6), ("other", 7)]) (g := (gTup K 2 (gCons (gName 6) (gCons (gName 7) gNil)))) (tt := (tAnd (tTest (tOp rEq (tFld K (tVar 7) "how") (tC (.int (0))))) (tTest (tOp rEq (tFld K (tVar 7) "kit") (tFld K (tVar 3) "kit"))))) rfl sc_late.nd rfl rfl (sw_true rfl rfl rfl (by decide +kernel)) (pi_list (pv 5)) (blkOk_by (own := [("at", 6), ("other", 7)]) (N := N_late) (sc := defScope s_late) (by decide +kernel)) (fun _ _ _ _ _ => (pg_tup rfl (pgs_cons (pg_name (i := 6) sc_late.nd rfl (by first | exact Or.inl rfl | exact Or.inr rfl)) (pgs_cons (pg_name (i := 7) sc_late.nd rfl (by first | exact Or.inl rfl | exact Or.inr rfl)) pgs_nil)))) (fun _ _ _ _ _ => (pts_one (PW.pt (pw_and (pt_cmpR op_eq (pe_fld (pv 7) rfl) (pe_gint T.BOOKED rfl) (nomark _)) (pw_and1 (pt_cmpR op_eq (pe_fld (pv 7) rfl) (pe_fld (pv 3) rfl) (nomark _))))))) (fun _ _ _ _ _ => (pe_tup (pa_cons (pv 6) (pa_cons (pe_fld (pv 7) rfl) pa_nil)))))
    (pss_one (ps_ret (pe_op op_cat (pe_lst (pa_cons (pe_callN d_late_by (hr.mono (by decide)) rfl (pa_cons (pv 0) (pa_cons (pv 3) pa_nil))) pa_nil)) (pe_lc (own := [("at", 6), ("first", 9)]) (g := (gTup K 2 (gCons (gName 6) (gCons (gName 9) gNil)))) (tt := (tTest (tOp rLtI (tVar 9) (tVar 4)))) rfl sc_late.nd (pi_list (pv 8)) (blkOk_by (own := [("at", 6), ("first", 9)]) (N := N_late) (sc := defScope s_late) (by decide +kernel)) (fun _ _ _ _ _ => (pg_tup rfl (pgs_cons (pg_name (i := 6) sc_late.nd rfl (by first | exact Or.inl rfl | exact Or.inr rfl)) (pgs_cons (pg_name (i := 9) sc_late.nd rfl (by first | exact Or.inl rfl | exact Or.inr rfl)) pgs_nil)))) (fun _ _ _ _ _ => (pts_one (pt_cmpR op_lt (pv 9) (pv 4) (nomark _)))) (fun _ _ _ _ _ => (pv 6))))))))))))
theorem sc_free_on : FnScope N_free_on ["lib", "work", "day", "but"] (defScope s_free_on) := ⟨rfl, rfl, rfl, by decide +kernel, rfl, by decide +kernel, by decide +kernel⟩
theorem der_free_on {P : Program} {w : World} {K : PySem.W.Frag} {mg : Str → Option Value} {base : Heap} {A : Around} {outer : List Env} {s : Shared} {H : Hp} {E : XK} {f : Addr} {cdv : Value} (T : Txt K mg) (d_others_of : Def P w K mg base 2 "others_of" (sp_others_of K)) (d_has_on : Def P w K mg base 3 "has_on" (sp_has_on K))
    (hr : Room 3 (A.deeper (envOfC "free_on" (defScope s_free_on) s.heap.objs.size f cdv))) :
    PSs (cxOf CX0 P w K mg base N_free_on "free_on" (defScope s_free_on) f cdv A outer s H E).nox (defBody s_free_on) (t_free_on K) :=
  (pss_cons (ps_set (i := 4) sc_free_on.nd rfl (by first | exact Or.inl rfl | exact Or.inr rfl) (pe_callTy call_list_of rfl T.list bt_list (pa_cons (pe_fld (pe_ix ix_list (pe_fld (pv 0) rfl) (pv 1) (fun _ _ => rfl)) rfl) pa_nil)))
    (pss_cons (ps_for PassesOwn.never rfl (pi_list (pe_callN d_others_of (hr.mono (by decide)) rfl (pa_cons (pv 0) (pa_cons (pv 1) (pa_cons (pv 3) pa_nil))))) (pg_name (i := 5) sc_free_on.nd rfl (by first | exact Or.inl rfl | exact Or.inr rfl)) (pss_one (ps_if (pt_val (pe_callN d_has_on (hr.mono (by decide)) rfl (pa_cons (pv 0) (pa_cons (pv 5) (pa_cons (pv 2) pa_nil))))) (pss_one (ps_for PassesOwn.never rfl (pi_range1 rfl T.range (pa_cons (pe_gint T.SECTIONS rfl) pa_nil)) (pg_name (i := 6) sc_free_on.nd rfl (by first | exact Or.inl rfl | exact Or.inr rfl)) (pss_one (ps_augS (pv 4) (pv 6) get_list (pe_ix ix_list (pe_fld (pv 5) rfl) (pv 6) (fun _ _ => rfl)) ip_sub set_list)))) pss_nil)))
    (pss_one (ps_ret (pv 4)))))
theorem sc_does : FnScope N_does ["lib", "at", "hiring", "free", "but"] (defScope s_does) := ⟨rfl, rfl, rfl, by decide +kernel, rfl, by decide +kernel, by decide +kernel⟩
theorem der_does {P : Program} {w : World} {K : PySem.W.Frag} {mg : Str → Option Value} {base : Heap} {A : Around} {outer : List Env} {s : Shared} {H : Hp} {E : XK} {f : Addr} {cdv : Value} (T : Txt K mg) (d_are_enough : Def P w K mg base 1 "are_enough" (sp_are_enough K)) (d_is_kit_free : Def P w K mg base 3 "is_kit_free" (sp_is_kit_free K)) (d_lack_of : Def P w K mg base 2 "lack_of" (sp_lack_of K)) (d_end_of : Def P w K mg base 1 "end_of" (sp_end_of K))
    (hr : Room 3 (A.deeper (envOfC "does" (defScope s_does) s.heap.objs.size f cdv))) :
    PSs (cxOf CX0 P w K mg base N_does "does" (defScope s_does) f cdv A outer s H E).nox (defBody s_does) (t_does K) :=
  (pss_cons (ps_set (i := 5) sc_does.nd rfl (by first | exact Or.inl rfl | exact Or.inr rfl) (pe_ix ix_list (pe_fld (pv 0) rfl) (pv 1) (fun _ _ => rfl)))
    (pss_cons (ps_if (PW.pt (pw_or (pt_cmpR op_ne (pe_fld (pv 5) rfl) (pe_fld (pv 2) rfl) (nomark _)) (pw_or1 (pt_cmpR (op_neD hr.units) (pe_fld (pv 5) rfl) (pe_lst pa_nil) (nomark _))))) (pss_one (ps_ret pe_bl)) pss_nil)
    (pss_cons (ps_if (pt_not (pt_val (pe_callN d_is_kit_free (hr.mono (by decide)) rfl (pa_cons (pv 0) (pa_cons (pv 1) (pa_cons (pe_fld (pv 2) rfl) (pa_cons (pe_callN d_end_of (hr.mono (by decide)) rfl (pa_cons (pv 0) (pa_cons (pe_fld (pv 2) rfl) (pa_cons (pe_fld (pv 2) rfl) pa_nil)))) (pa_cons (pv 4) pa_nil)))))))) (pss_one (ps_ret pe_bl)) pss_nil)
    (pss_one (ps_ret (pe_callN d_are_enough (hr.mono (by decide)) rfl (pa_cons (pe_callN d_lack_of (hr.mono (by decide)) rfl (pa_cons (pv 5) (pa_cons (pe_fld (pv 2) rfl) pa_nil))) (pa_cons (pv 3) pa_nil))))))))
theorem sc_best_of : FnScope N_best_of ["lib", "some", "desks"] (defScope s_best_of) := ⟨rfl, rfl, rfl, by decide +kernel, rfl, by decide +kernel, by decide +kernel⟩
theorem der_best_of {P : Program} {w : World} {K : PySem.W.Frag} {mg : Str → Option Value} {base : Heap} {A : Around} {outer : List Env} {s : Shared} {H : Hp} {E : XK} {f : Addr} {cdv : Value} (T : Txt K mg) (d_rank_of : Def P w K mg base 3 "rank_of" (sp_rank_of K))
    (hr : Room 3 (A.deeper (envOfC "best_of" (defScope s_best_of) s.heap.objs.size f cdv))) :
    PSs (cxOf CX0 P w K mg base N_best_of "best_of" (defScope s_best_of) f cdv A outer s H E).nox (defBody s_best_of) (t_best_of K) :=
  (pss_cons (ps_setLc (i := 4) (own := [("at", 3)]) (g := (gName 3)) (tt := tYes) rfl sc_best_of.nd rfl rfl (sw_true rfl rfl rfl (by decide +kernel)) (pi_list (pv 1)) (blkOk_by (own := [("at", 3)]) (N := N_best_of) (sc := defScope s_best_of) (by decide +kernel)) (fun _ _ _ _ _ => (pg_name (i := 3) sc_best_of.nd rfl (by first | exact Or.inl rfl | exact Or.inr rfl))) (fun _ _ _ _ _ => pts_nil) (fun _ _ _ _ _ => (pe_callN d_rank_of (hr.mono (by decide)) rfl (pa_cons (pv 0) (pa_cons (pv 3) (pa_cons (pv 2) pa_nil))))))
    (pss_one (ps_ret (pe_ix ix_tup (pe_callB (cr_minT rfl hr) rfl T.min bt_min (pa_cons (pv 4) pa_nil)) pe_int (fun _ _ => rfl)))))
theorem sc_back : FnScope N_back ["lib", "numbers", "lists"] (defScope s_back) := ⟨rfl, rfl, rfl, by decide +kernel, rfl, by decide +kernel, by decide +kernel⟩
theorem der_back {P : Program} {w : World} {K : PySem.W.Frag} {mg : Str → Option Value} {base : Heap} {A : Around} {outer : List Env} {s : Shared} {H : Hp} {E : XK} {f : Addr} {cdv : Value} (T : Txt K mg) (d_bill_of : Def P w K mg base 3 "bill_of" (sp_bill_of K)) (d_lose_strings : Def P w K mg base 1 "lose_strings" (sp_lose_strings K)) (d_late_by : Def P w K mg base 2 "late_by" (sp_late_by K)) (d_are_winds : Def P w K mg base 1 "are_winds" (sp_are_winds K)) (d_are_lost : Def P w K mg base 3 "are_lost" (sp_are_lost K))
    (hr : Room 3 (A.deeper (envOfC "back" (defScope s_back) s.heap.objs.size f cdv))) :
    PSs (cxOf CX0 P w K mg base N_back "back" (defScope s_back) f cdv A outer s H E).nox (defBody s_back) (t_back K) :=
  (pss_cons (ps_set (i := 3) sc_back.nd rfl (by first | exact Or.inl rfl | exact Or.inr rfl) (pe_ix ix_list (pv 1) pe_int (fun _ _ => rfl)))
    (pss_cons (ps_asg (pv 2) (pg_lst rfl (pgs_cons (pg_name (i := 4) sc_back.nd rfl (by first | exact Or.inl rfl | exact Or.inr rfl)) (pgs_cons (pg_name (i := 5) sc_back.nd rfl (by first | exact Or.inl rfl | exact Or.inr rfl)) pgs_nil))))
    (pss_cons (ps_if (pt_cmpR op_ge (pv 3) (pe_callB call_len_seq rfl T.len bt_len (pa_cons (pe_fld (pv 0) rfl) pa_nil)) (nomark _)) (pss_one (ps_ret (pe_lst (pa_cons (pe_gint T.NONE_SUCH rfl) pa_nil)))) pss_nil)
    (pss_cons (ps_set (i := 6) sc_back.nd rfl (by first | exact Or.inl rfl | exact Or.inr rfl) (pe_ix ix_list (pe_fld (pv 0) rfl) (pv 3) (fun _ _ => rfl)))
    (pss_cons (ps_if (pt_cmpR op_ne (pe_fld (pv 6) rfl) (pe_gint T.OUT rfl) (nomark _)) (pss_one (ps_ret (pe_lst (pa_cons (pe_gint T.NOT_SO rfl) pa_nil)))) pss_nil)
    (pss_cons (ps_if (PW.pt (pw_or (pt_not (pt_val (pe_callN d_are_winds (hr.mono (by decide)) rfl (pa_cons (pe_ix ix_list (pe_fld (pv 0) rfl) (pe_fld (pv 6) rfl) (fun _ _ => rfl)) (pa_cons (pv 4) pa_nil))))) (pw_or1 (pt_not (pt_val (pe_callN d_are_lost (hr.mono (by decide)) rfl (pa_cons (pv 0) (pa_cons (pv 6) (pa_cons (pv 5) pa_nil))))))))) (pss_one (ps_ret (pe_lst (pa_cons (pe_gint T.OUT_OF_RANGE rfl) pa_nil)))) pss_nil)
    (pss_cons (ps_set (i := 7) sc_back.nd rfl (by first | exact Or.inl rfl | exact Or.inr rfl) (pe_callN d_bill_of (hr.mono (by decide)) rfl (pa_cons (pv 0) (pa_cons (pv 6) (pa_cons (pe_op op_add (pe_callB call_len_seq rfl T.len bt_len (pa_cons (pv 4) pa_nil)) (pe_callB (cr_sum rfl) rfl T.sum bt_sum (pa_cons (pv 5) pa_nil))) pa_nil)))))
    (pss_cons (ps_fldaug (pv 0) (pv 7) in_add)
    (pss_cons (ps_set (i := 8) sc_back.nd rfl (by first | exact Or.inl rfl | exact Or.inr rfl) (pe_ix ix_list (pe_fld (pv 0) rfl) (pe_fld (pv 6) rfl) (fun _ _ => rfl)))
    (pss_cons (ps_fld (pv 8) (pe_callTy call_list_of rfl T.list bt_list (pa_cons (pv 4) pa_nil)) rfl)
    (pss_cons (ps_expr (pe_callN d_lose_strings (hr.mono (by decide)) rfl (pa_cons (pv 0) (pa_cons (pv 6) (pa_cons (pv 5) pa_nil)))))
    (pss_cons (ps_fld (pv 8) (pe_op op_add (pv 3) pe_int) rfl)
    (pss_cons (ps_fld (pv 6) (pe_gint T.BACK rfl) rfl)
    (pss_one (ps_ret (pe_lst (pa_cons (pv 7) (pa_cons (pe_callN d_late_by (hr.mono (by decide)) rfl (pa_cons (pv 0) (pa_cons (pv 6) pa_nil))) pa_nil))))))))))))))))))
theorem sc_having_on : FnScope N_having_on ["lib", "work", "day"] (defScope s_having_on) := ⟨rfl, rfl, rfl, by decide +kernel, rfl, by decide +kernel, by decide +kernel⟩
theorem der_having_on {P : Program} {w : World} {K : PySem.W.Frag} {mg : Str → Option Value} {base : Heap} {A : Around} {outer : List Env} {s : Shared} {H : Hp} {E : XK} {f : Addr} {cdv : Value} (T : Txt K mg) (d_has_on : Def P w K mg base 3 "has_on" (sp_has_on K))
    (hr : Room 3 (A.deeper (envOfC "having_on" (defScope s_having_on) s.heap.objs.size f cdv))) :
    PSs (cxOf CX0 P w K mg base N_having_on "having_on" (defScope s_having_on) f cdv A outer s H E).nox (defBody s_having_on) (t_having_on K) :=
  (pss_one (ps_ret (pe_callB call_len_seq rfl T.len bt_len (pa_cons (pe_lc (own := [("hiring", 3)]) (g := (gName 3)) (tt := (tAnd (tTest (tOp rEq (tFld K (tVar 3) "work") (tVar 1))) (tB (tCall (sp_has_on K) [] E0 (tCons (tVar 0) (tCons (tVar 3) (tCons (tVar 2) tNil))))))) rfl sc_having_on.nd (pi_list (pe_fld (pv 0) rfl)) (blkOk_by (own := [("hiring", 3)]) (N := N_having_on) (sc := defScope s_having_on) (by decide +kernel)) (fun _ _ _ _ _ => (pg_name (i := 3) sc_having_on.nd rfl (by first | exact Or.inl rfl | exact Or.inr rfl))) (fun _ _ _ _ _ => (pts_one (PW.pt (pw_and (pt_cmpR op_eq (pe_fld (pv 3) rfl) (pv 1) (nomark _)) (pw_and1 (pt_val (pe_callN d_has_on (hr.mono (by decide)) rfl (pa_cons (pv 0) (pa_cons (pv 3) (pa_cons (pv 2) pa_nil)))))))))) (fun _ _ _ _ _ => (pv 3))) pa_nil))))
theorem sc_bill : FnScope N_bill ["lib", "numbers", "lists"] (defScope s_bill) := ⟨rfl, rfl, rfl, by decide +kernel, rfl, by decide +kernel, by decide +kernel⟩
theorem der_bill {P : Program} {w : World} {K : PySem.W.Frag} {mg : Str → Option Value} {base : Heap} {A : Around} {outer : List Env} {s : Shared} {H : Hp} {E : XK} {f : Addr} {cdv : Value} (T : Txt K mg) (d_is_on : Def P w K mg base 1 "is_on" (sp_is_on K)) (d_bill_of : Def P w K mg base 3 "bill_of" (sp_bill_of K))
    (hr : Room 3 (A.deeper (envOfC "bill" (defScope s_bill) s.heap.objs.size f cdv))) :
    PSs (cxOf CX0 P w K mg base N_bill "bill" (defScope s_bill) f cdv A outer s H E).nox (defBody s_bill) (t_bill K) :=
  (pss_cons (ps_if (pt_cmpR op_ge (pe_ix ix_list (pv 1) pe_int (fun _ _ => rfl)) (pe_callB call_len_seq rfl T.len bt_len (pa_cons (pe_fld (pv 0) rfl) pa_nil)) (nomark _)) (pss_one (ps_ret (pe_lst (pa_cons (pe_gint T.NONE_SUCH rfl) pa_nil)))) pss_nil)
    (pss_cons (ps_set (i := 3) sc_bill.nd rfl (by first | exact Or.inl rfl | exact Or.inr rfl) (pe_ix ix_list (pe_fld (pv 0) rfl) (pe_ix ix_list (pv 1) pe_int (fun _ _ => rfl)) (fun _ _ => rfl)))
    (pss_one (ps_ret (pe_ifExp (pt_val (pe_callN d_is_on (hr.mono (by decide)) rfl (pa_cons (pv 3) pa_nil))) (pe_lst (pa_cons (pe_callN d_bill_of (hr.mono (by decide)) rfl (pa_cons (pv 0) (pa_cons (pv 3) (pa_cons pe_int pa_nil)))) pa_nil)) (pe_lst (pa_cons (pe_gint T.NOT_SO rfl) pa_nil)))))))
theorem sc_least_free : FnScope N_least_free ["lib", "work", "first", "end", "but"] (defScope s_least_free) := ⟨rfl, rfl, rfl, by decide +kernel, rfl, by decide +kernel, by decide +kernel⟩
theorem der_least_free {P : Program} {w : World} {K : PySem.W.Frag} {mg : Str → Option Value} {base : Heap} {A : Around} {outer : List Env} {s : Shared} {H : Hp} {E : XK} {f : Addr} {cdv : Value} (T : Txt K mg) (d_free_on : Def P w K mg base 4 "free_on" (sp_free_on K))
    (hr : Room 4 (A.deeper (envOfC "least_free" (defScope s_least_free) s.heap.objs.size f cdv))) :
    PSs (cxOf CX0 P w K mg base N_least_free "least_free" (defScope s_least_free) f cdv A outer s H E).nox (defBody s_least_free) (t_least_free K) :=
  (pss_cons (ps_set (i := 5) sc_least_free.nd rfl (by first | exact Or.inl rfl | exact Or.inr rfl) (pe_callN d_free_on (hr.mono (by decide)) rfl (pa_cons (pv 0) (pa_cons (pv 1) (pa_cons (pv 2) (pa_cons (pv 4) pa_nil))))))
    (pss_cons (ps_for PassesOwn.never rfl (pi_range2 rfl T.range (pa_cons (pe_op op_add (pv 2) pe_int) (pa_cons (pv 3) pa_nil))) (pg_name (i := 6) sc_least_free.nd rfl (by first | exact Or.inl rfl | exact Or.inr rfl)) (pss_cons (ps_set (i := 7) sc_least_free.nd rfl (by first | exact Or.inl rfl | exact Or.inr rfl) (pe_callN d_free_on (hr.mono (by decide)) rfl (pa_cons (pv 0) (pa_cons (pv 1) (pa_cons (pv 6) (pa_cons (pv 4) pa_nil))))))
    (pss_one (ps_for PassesOwn.never rfl (pi_range1 rfl T.range (pa_cons (pe_gint T.SECTIONS rfl) pa_nil)) (pg_name (i := 8) sc_least_free.nd rfl (by first | exact Or.inl rfl | exact Or.inr rfl)) (pss_one (ps_asg (pe_callB (call_min2 rfl) rfl T.min bt_min (pa_cons (pe_ix ix_list (pv 5) (pv 8) (fun _ _ => rfl)) (pa_cons (pe_ix ix_list (pv 7) (pv 8) (fun _ _ => rfl)) pa_nil))) (pg_sub (pv 5) (pv 8) set_list)))))))
    (pss_one (ps_ret (pv 5)))))
end Pl

namespace Pl
open PySem PySem.Spec PyProof.Rows L2
theorem sc_is_in_way : FnScope N_is_in_way ["lib", "at", "day"] (defScope s_is_in_way) := ⟨rfl, rfl, rfl, by decide +kernel, rfl, by decide +kernel, by decide +kernel⟩
theorem der_is_in_way {P : Program} {w : World} {K : PySem.W.Frag} {mg : Str → Option Value} {base : Heap} {A : Around} {outer : List Env} {s : Shared} {H : Hp} {E : XK} {f : Addr} {cdv : Value} (T : Txt K mg) (d_are_enough : Def P w K mg base 1 "are_enough" (sp_are_enough K)) (d_has_on : Def P w K mg base 3 "has_on" (sp_has_on K)) (d_free_on : Def P w K mg base 4 "free_on" (sp_free_on K))
    (hr : Room 4 (A.deeper (envOfC "is_in_way" (defScope s_is_in_way) s.heap.objs.size f cdv))) :
    PSs (cxOf CX0 P w K mg base N_is_in_way "is_in_way" (defScope s_is_in_way) f cdv A outer s H E).nox (defBody s_is_in_way) (t_is_in_way K) :=
  (pss_cons (ps_set (i := 3) sc_is_in_way.nd rfl (by first | exact Or.inl rfl | exact Or.inr rfl) (pe_ix ix_list (pe_fld (pv 0) rfl) (pv 1) (fun _ _ => rfl)))
    (pss_cons (ps_for PassesOwn.never rfl (pi_enum rfl T.enumerate (pa_cons (pe_fld (pv 0) rfl) pa_nil)) (pg_tup rfl (pgs_cons (pg_name (i := 4) sc_is_in_way.nd rfl (by first | exact Or.inl rfl | exact Or.inr rfl)) (pgs_cons (pg_name (i := 5) sc_is_in_way.nd rfl (by first | exact Or.inl rfl | exact Or.inr rfl)) pgs_nil))) (pss_one (ps_if (PW.pt (pw_and (pt_cmpR op_ne (pv 4) (pv 1) (nomark _)) (pw_and (pt_cmpR op_eq (pe_fld (pv 5) rfl) (pe_fld (pv 3) rfl) (nomark _)) (pw_and1 (pt_val (pe_callN d_has_on (hr.mono (by decide)) rfl (pa_cons (pv 0) (pa_cons (pv 5) (pa_cons (pv 2) pa_nil))))))))) (pss_one (ps_ret pe_bl)) pss_nil)))
    (pss_one (ps_ret (pe_not (pe_callN d_are_enough (hr.mono (by decide)) rfl (pa_cons (pe_fld (pv 3) rfl) (pa_cons (pe_callN d_free_on (hr.mono (by decide)) rfl (pa_cons (pv 0) (pa_cons (pe_fld (pv 3) rfl) (pa_cons (pv 2) (pa_cons (pv 1) pa_nil))))) pa_nil))))))))
theorem sc_why_not_sent : FnScope N_why_not_sent ["lib", "at"] (defScope s_why_not_sent) := ⟨rfl, rfl, rfl, by decide +kernel, rfl, by decide +kernel, by decide +kernel⟩
theorem der_why_not_sent {P : Program} {w : World} {K : PySem.W.Frag} {mg : Str → Option Value} {base : Heap} {A : Around} {outer : List Env} {s : Shared} {H : Hp} {E : XK} {f : Addr} {cdv : Value} (T : Txt K mg) (d_is_out : Def P w K mg base 1 "is_out" (sp_is_out K)) (d_lack_of : Def P w K mg base 2 "lack_of" (sp_lack_of K)) (d_are_enough : Def P w K mg base 1 "are_enough" (sp_are_enough K)) (d_free_on : Def P w K mg base 4 "free_on" (sp_free_on K))
    (hr : Room 4 (A.deeper (envOfC "why_not_sent" (defScope s_why_not_sent) s.heap.objs.size f cdv))) :
    PSs (cxOf CX0 P w K mg base N_why_not_sent "why_not_sent" (defScope s_why_not_sent) f cdv A outer s H E).nox (defBody s_why_not_sent) (t_why_not_sent K) :=
  (pss_cons (ps_set (i := 2) sc_why_not_sent.nd rfl (by first | exact Or.inl rfl | exact Or.inr rfl) (pe_ix ix_list (pe_fld (pv 0) rfl) (pv 1) (fun _ _ => rfl)))
    (pss_cons (ps_set (i := 3) sc_why_not_sent.nd rfl (by first | exact Or.inl rfl | exact Or.inr rfl) (pe_ix ix_list (pe_fld (pv 0) rfl) (pe_fld (pv 2) rfl) (fun _ _ => rfl)))
    (pss_cons (ps_if (pt_cmpR op_lt (pe_fld (pv 0) rfl) (pe_fld (pv 2) rfl) (nomark _)) (pss_one (ps_ret (pe_gint T.NOT_YET rfl))) pss_nil)
    (pss_cons (ps_if (pt_val (pe_callN d_is_out (hr.mono (by decide)) rfl (pa_cons (pv 0) (pa_cons (pe_fld (pv 2) rfl) pa_nil)))) (pss_one (ps_ret (pe_gint T.ALREADY rfl))) pss_nil)
    (pss_cons (ps_if (pt_cmpR (op_neD hr.units) (pe_fld (pv 3) rfl) (pe_lst pa_nil) (nomark _)) (pss_one (ps_ret (pe_gint T.LACKS_PART rfl))) pss_nil)
    (pss_cons (ps_if (PW.pt (pw_and (pt_cmpR op_eq (pe_fld (pv 2) rfl) pe_int (nomark _)) (pw_and1 (pt_cmpR op_gt (pe_fld (pv 3) rfl) pe_int (nomark _))))) (pss_one (ps_ret (pe_gint T.IS_MARKED rfl))) pss_nil)
    (pss_cons (ps_set (i := 4) sc_why_not_sent.nd rfl (by first | exact Or.inl rfl | exact Or.inr rfl) (pe_callN d_lack_of (hr.mono (by decide)) rfl (pa_cons (pv 3) (pa_cons (pe_fld (pv 2) rfl) pa_nil))))
    (pss_cons (ps_if (pt_val (pe_callB (cr_any rfl) rfl T.any bt_any (pa_cons (pe_lc (own := [("i", 5)]) (g := (gName 5)) (tt := tYes) rfl sc_why_not_sent.nd (pi_range1 rfl T.range (pa_cons (pe_gint T.SECTIONS rfl) pa_nil)) (blkOk_by (own := [("i", 5)]) (N := N_why_not_sent) (sc := defScope s_why_not_sent) (by decide +kernel)) (fun _ _ _ _ _ => (pg_name (i := 5) sc_why_not_sent.nd rfl (by first | exact Or.inl rfl | exact Or.inr rfl))) (fun _ _ _ _ _ => pts_nil) (fun _ _ _ _ _ => (pe_cmpR op_gt (pe_ix ix_list (pv 4) (pv 5) (fun _ _ => rfl)) (pe_ix ix_list (pe_fld (pv 2) rfl) (pv 5) (fun _ _ => rfl)) (nomark _)))) pa_nil))) (pss_one (ps_ret (pe_gint T.CANNOT_BE rfl))) pss_nil)
    (pss_cons (ps_if (pt_not (pt_val (pe_callN d_are_enough (hr.mono (by decide)) rfl (pa_cons (pe_fld (pv 2) rfl) (pa_cons (pe_callN d_free_on (hr.mono (by decide)) rfl (pa_cons (pv 0) (pa_cons (pe_fld (pv 2) rfl) (pa_cons (pe_fld (pv 0) rfl) (pa_cons (pv 1) pa_nil))))) pa_nil))))) (pss_one (ps_ret (pe_gint T.CANNOT_BE rfl))) pss_nil)
    (pss_one (ps_ret pe_int)))))))))))
theorem sc_most : FnScope N_most ["lib", "numbers", "lists"] (defScope s_most) := ⟨rfl, rfl, rfl, by decide +kernel, rfl, by decide +kernel, by decide +kernel⟩
theorem der_most {P : Program} {w : World} {K : PySem.W.Frag} {mg : Str → Option Value} {base : Heap} {A : Around} {outer : List Env} {s : Shared} {H : Hp} {E : XK} {f : Addr} {cdv : Value} (T : Txt K mg) (d_having_on : Def P w K mg base 4 "having_on" (sp_having_on K)) (d_is_on : Def P w K mg base 1 "is_on" (sp_is_on K))
    (hr : Room 4 (A.deeper (envOfC "most" (defScope s_most) s.heap.objs.size f cdv))) :
    PSs (cxOf CX0 P w K mg base N_most "most" (defScope s_most) f cdv A outer s H E).nox (defBody s_most) (t_most K) :=
  (pss_cons (ps_set (i := 3) sc_most.nd rfl (by first | exact Or.inl rfl | exact Or.inr rfl) (pe_ix ix_list (pv 1) pe_int (fun _ _ => rfl)))
    (pss_cons (ps_if (pt_cmpR op_ge (pv 3) (pe_callB call_len_seq rfl T.len bt_len (pa_cons (pe_fld (pv 0) rfl) pa_nil)) (nomark _)) (pss_one (ps_ret (pe_lst (pa_cons (pe_gint T.NONE_SUCH rfl) pa_nil)))) pss_nil)
    (pss_cons (ps_asg (pe_tup (pa_cons pe_int (pa_cons pe_int pa_nil))) (pg_tup rfl (pgs_cons (pg_name (i := 4) sc_most.nd rfl (by first | exact Or.inl rfl | exact Or.inr rfl)) (pgs_cons (pg_name (i := 5) sc_most.nd rfl (by first | exact Or.inl rfl | exact Or.inr rfl)) pgs_nil))))
    (pss_cons (ps_for PassesOwn.never rfl (pi_list (pe_callB cr_sorted rfl T.sorted bt_sorted (pa_cons (pe_lc (own := [("hiring", 6)]) (g := (gName 6)) (tt := (tAnd (tTest (tOp rEq (tFld K (tVar 6) "work") (tVar 3))) (tB (tCall (sp_is_on K) [] E0 (tCons (tVar 6) tNil))))) rfl sc_most.nd (pi_list (pe_fld (pv 0) rfl)) (blkOk_by (own := [("hiring", 6)]) (N := N_most) (sc := defScope s_most) (by decide +kernel)) (fun _ _ _ _ _ => (pg_name (i := 6) sc_most.nd rfl (by first | exact Or.inl rfl | exact Or.inr rfl))) (fun _ _ _ _ _ => (pts_one (PW.pt (pw_and (pt_cmpR op_eq (pe_fld (pv 6) rfl) (pv 3) (nomark _)) (pw_and1 (pt_val (pe_callN d_is_on (hr.mono (by decide)) rfl (pa_cons (pv 6) pa_nil)))))))) (fun _ _ _ _ _ => (pe_fld (pv 6) rfl))) pa_nil))) (pg_name (i := 7) sc_most.nd rfl (by first | exact Or.inl rfl | exact Or.inr rfl)) (pss_cons (ps_set (i := 8) sc_most.nd rfl (by first | exact Or.inl rfl | exact Or.inr rfl) (pe_callN d_having_on (hr.mono (by decide)) rfl (pa_cons (pv 0) (pa_cons (pv 3) (pa_cons (pv 7) pa_nil)))))
    (pss_one (ps_if (pt_cmpR op_gt (pv 8) (pv 4) (nomark _)) (pss_one (ps_par (i := 4) (j := 5) rfl sc_most.nd rfl rfl (by decide) rfl rfl (pa_cons (pv 8) (pa_cons (pv 7) pa_nil)) (by rfl))) pss_nil))))
    (pss_one (ps_ret (pe_lst (pa_cons (pv 4) (pa_cons (pv 5) (pa_cons (pe_callB call_len_seq rfl T.len bt_len (pa_cons (pe_lc (own := [("kit", 9)]) (g := (gName 9)) (tt := (tTest (tOp rEq (tFld K (tVar 9) "work") (tVar 3)))) rfl sc_most.nd (pi_list (pe_fld (pv 0) rfl)) (blkOk_by (own := [("kit", 9)]) (N := N_most) (sc := defScope s_most) (by decide +kernel)) (fun _ _ _ _ _ => (pg_name (i := 9) sc_most.nd rfl (by first | exact Or.inl rfl | exact Or.inr rfl))) (fun _ _ _ _ _ => (pts_one (pt_cmpR op_eq (pe_fld (pv 9) rfl) (pv 3) (nomark _)))) (fun _ _ _ _ _ => (pv 9))) pa_nil)) pa_nil))))))))))
theorem sc_free : FnScope N_free ["lib", "numbers", "lists"] (defScope s_free) := ⟨rfl, rfl, rfl, by decide +kernel, rfl, by decide +kernel, by decide +kernel⟩
theorem der_free {P : Program} {w : World} {K : PySem.W.Frag} {mg : Str → Option Value} {base : Heap} {A : Around} {outer : List Env} {s : Shared} {H : Hp} {E : XK} {f : Addr} {cdv : Value} (T : Txt K mg) (d_free_on : Def P w K mg base 4 "free_on" (sp_free_on K))
    (hr : Room 4 (A.deeper (envOfC "free" (defScope s_free) s.heap.objs.size f cdv))) :
    PSs (cxOf CX0 P w K mg base N_free "free" (defScope s_free) f cdv A outer s H E).nox (defBody s_free) (t_free K) :=
  (pss_cons (ps_asg (pv 1) (pg_lst rfl (pgs_cons (pg_name (i := 3) sc_free.nd rfl (by first | exact Or.inl rfl | exact Or.inr rfl)) (pgs_cons (pg_name (i := 4) sc_free.nd rfl (by first | exact Or.inl rfl | exact Or.inr rfl)) (pgs_cons (pg_name (i := 5) sc_free.nd rfl (by first | exact Or.inl rfl | exact Or.inr rfl)) pgs_nil)))))
    (pss_cons (ps_if (pt_cmpR op_ge (pv 3) (pe_callB call_len_seq rfl T.len bt_len (pa_cons (pe_fld (pv 0) rfl) pa_nil)) (nomark _)) (pss_one (ps_ret (pe_lst (pa_cons (pe_gint T.NONE_SUCH rfl) pa_nil)))) pss_nil)
    (pss_cons (ps_if (PW.pt (pw_or (pt_cmpR op_ge (pv 4) (pe_gint T.SECTIONS rfl) (nomark _)) (pw_or1 (pt_not (pt_chain op_le op_le (pe_fld (pv 0) rfl) (pv 5) (pe_gint T.LAST_ASKED rfl)))))) (pss_one (ps_ret (pe_lst (pa_cons (pe_gint T.OUT_OF_RANGE rfl) pa_nil)))) pss_nil)
    (pss_one (ps_ret (pe_lst (pa_cons (pe_callB (call_max2 rfl) rfl T.max bt_max (pa_cons pe_int (pa_cons (pe_ix ix_list (pe_callN d_free_on (hr.mono (by decide)) rfl (pa_cons (pv 0) (pa_cons (pv 3) (pa_cons (pv 5) (pa_cons (pe_gint T.NO_HIRING rfl) pa_nil))))) (pv 4) (fun _ _ => rfl)) pa_nil))) (pa_cons (pe_ix ix_list (pe_fld (pe_ix ix_list (pe_fld (pv 0) rfl) (pv 3) (fun _ _ => rfl)) rfl) (pv 4) (fun _ _ => rfl)) pa_nil))))))))
theorem sc_free_for : FnScope N_free_for ["lib", "hiring", "but"] (defScope s_free_for) := ⟨rfl, rfl, rfl, by decide +kernel, rfl, by decide +kernel, by decide +kernel⟩
theorem der_free_for {P : Program} {w : World} {K : PySem.W.Frag} {mg : Str → Option Value} {base : Heap} {A : Around} {outer : List Env} {s : Shared} {H : Hp} {E : XK} {f : Addr} {cdv : Value} (T : Txt K mg) (d_least_free : Def P w K mg base 5 "least_free" (sp_least_free K)) (d_end_of : Def P w K mg base 1 "end_of" (sp_end_of K))
    (hr : Room 5 (A.deeper (envOfC "free_for" (defScope s_free_for) s.heap.objs.size f cdv))) :
    PSs (cxOf CX0 P w K mg base N_free_for "free_for" (defScope s_free_for) f cdv A outer s H E).nox (defBody s_free_for) (t_free_for K) :=
  (pss_one (ps_ret (pe_callN d_least_free (hr.mono (by decide)) rfl (pa_cons (pv 0) (pa_cons (pe_fld (pv 1) rfl) (pa_cons (pe_fld (pv 1) rfl) (pa_cons (pe_callN d_end_of (hr.mono (by decide)) rfl (pa_cons (pv 0) (pa_cons (pe_fld (pv 1) rfl) (pa_cons (pe_fld (pv 1) rfl) pa_nil)))) (pa_cons (pv 2) pa_nil))))))))
theorem sc_is_any_in_way : FnScope N_is_any_in_way ["lib", "at", "spell"] (defScope s_is_any_in_way) := ⟨rfl, rfl, rfl, by decide +kernel, rfl, by decide +kernel, by decide +kernel⟩
theorem der_is_any_in_way {P : Program} {w : World} {K : PySem.W.Frag} {mg : Str → Option Value} {base : Heap} {A : Around} {outer : List Env} {s : Shared} {H : Hp} {E : XK} {f : Addr} {cdv : Value} (T : Txt K mg) (d_is_in_way : Def P w K mg base 5 "is_in_way" (sp_is_in_way K))
    (hr : Room 5 (A.deeper (envOfC "is_any_in_way" (defScope s_is_any_in_way) s.heap.objs.size f cdv))) :
    PSs (cxOf CX0 P w K mg base N_is_any_in_way "is_any_in_way" (defScope s_is_any_in_way) f cdv A outer s H E).nox (defBody s_is_any_in_way) (t_is_any_in_way K) :=
  (pss_cons (ps_set (i := 3) sc_is_any_in_way.nd rfl (by first | exact Or.inl rfl | exact Or.inr rfl) (pe_fld (pe_ix ix_list (pe_fld (pv 0) rfl) (pv 1) (fun _ _ => rfl)) rfl))
    (pss_one (ps_ret (pe_callB (cr_any rfl) rfl T.any bt_any (pa_cons (pe_lc (own := [("day", 4)]) (g := (gName 4)) (tt := tYes) rfl sc_is_any_in_way.nd (pi_range2 rfl T.range (pa_cons (pv 3) (pa_cons (pe_op op_add (pe_op op_add (pv 3) (pv 2)) (pe_fld (pv 0) rfl)) pa_nil))) (blkOk_by (own := [("day", 4)]) (N := N_is_any_in_way) (sc := defScope s_is_any_in_way) (by decide +kernel)) (fun _ _ _ _ _ => (pg_name (i := 4) sc_is_any_in_way.nd rfl (by first | exact Or.inl rfl | exact Or.inr rfl))) (fun _ _ _ _ _ => pts_nil) (fun _ _ _ _ _ => (pe_callN d_is_in_way (hr.mono (by decide)) rfl (pa_cons (pv 0) (pa_cons (pv 1) (pa_cons (pv 4) pa_nil)))))) pa_nil)))))
theorem sc_send : FnScope N_send ["lib", "numbers", "lists"] (defScope s_send) := ⟨rfl, rfl, rfl, by decide +kernel, rfl, by decide +kernel, by decide +kernel⟩
theorem der_send {P : Program} {w : World} {K : PySem.W.Frag} {mg : Str → Option Value} {base : Heap} {A : Around} {outer : List Env} {s : Shared} {H : Hp} {E : XK} {f : Addr} {cdv : Value} (T : Txt K mg) (d_why_not_sent : Def P w K mg base 5 "why_not_sent" (sp_why_not_sent K)) (d_sent_of : Def P w K mg base 2 "sent_of" (sp_sent_of K))
    (hr : Room 5 (A.deeper (envOfC "send" (defScope s_send) s.heap.objs.size f cdv))) :
    PSs (cxOf CX0 P w K mg base N_send "send" (defScope s_send) f cdv A outer s H E).nox (defBody s_send) (t_send K) :=
  (pss_cons (ps_set (i := 3) sc_send.nd rfl (by first | exact Or.inl rfl | exact Or.inr rfl) (pe_ix ix_list (pv 1) pe_int (fun _ _ => rfl)))
    (pss_cons (ps_if (pt_cmpR op_ge (pv 3) (pe_callB call_len_seq rfl T.len bt_len (pa_cons (pe_fld (pv 0) rfl) pa_nil)) (nomark _)) (pss_one (ps_ret (pe_lst (pa_cons (pe_gint T.NONE_SUCH rfl) pa_nil)))) pss_nil)
    (pss_cons (ps_set (i := 4) sc_send.nd rfl (by first | exact Or.inl rfl | exact Or.inr rfl) (pe_ix ix_list (pe_fld (pv 0) rfl) (pv 3) (fun _ _ => rfl)))
    (pss_cons (ps_if (pt_cmpR op_ne (pe_fld (pv 4) rfl) (pe_gint T.BOOKED rfl) (nomark _)) (pss_one (ps_ret (pe_lst (pa_cons (pe_gint T.NOT_SO rfl) pa_nil)))) pss_nil)
    (pss_cons (ps_set (i := 5) sc_send.nd rfl (by first | exact Or.inl rfl | exact Or.inr rfl) (pe_callN d_why_not_sent (hr.mono (by decide)) rfl (pa_cons (pv 0) (pa_cons (pv 3) pa_nil))))
    (pss_cons (ps_if (pt_cmpR op_ne (pv 5) pe_int (nomark _)) (pss_one (ps_ret (pe_lst (pa_cons (pv 5) pa_nil)))) pss_nil)
    (pss_cons (ps_fld (pv 4) (pe_gint T.OUT rfl) rfl)
    (pss_one (ps_ret (pe_op op_cat (pe_lst (pa_cons pe_int pa_nil)) (pe_callN d_sent_of (hr.mono (by decide)) rfl (pa_cons (pv 0) (pa_cons (pv 4) pa_nil)))))))))))))
theorem sc_that_do : FnScope N_that_do ["lib", "hiring", "but"] (defScope s_that_do) := ⟨rfl, rfl, rfl, by decide +kernel, rfl, by decide +kernel, by decide +kernel⟩
theorem der_that_do {P : Program} {w : World} {K : PySem.W.Frag} {mg : Str → Option Value} {base : Heap} {A : Around} {outer : List Env} {s : Shared} {H : Hp} {E : XK} {f : Addr} {cdv : Value} (T : Txt K mg) (d_free_for : Def P w K mg base 6 "free_for" (sp_free_for K)) (d_does : Def P w K mg base 4 "does" (sp_does K))
    (hr : Room 6 (A.deeper (envOfC "that_do" (defScope s_that_do) s.heap.objs.size f cdv))) :
    PSs (cxOf CX0 P w K mg base N_that_do "that_do" (defScope s_that_do) f cdv A outer s H E).nox (defBody s_that_do) (t_that_do K) :=
  (pss_cons (ps_set (i := 3) sc_that_do.nd rfl (by first | exact Or.inl rfl | exact Or.inr rfl) (pe_callN d_free_for (hr.mono (by decide)) rfl (pa_cons (pv 0) (pa_cons (pv 1) (pa_cons (pv 2) pa_nil)))))
    (pss_one (ps_ret (pe_lc (own := [("at", 4)]) (g := (gName 4)) (tt := (tB (tCall (sp_does K) [] E0 (tCons (tVar 0) (tCons (tVar 4) (tCons (tVar 1) (tCons (tVar 3) (tCons (tVar 2) tNil)))))))) rfl sc_that_do.nd (pi_range1 rfl T.range (pa_cons (pe_callB call_len_seq rfl T.len bt_len (pa_cons (pe_fld (pv 0) rfl) pa_nil)) pa_nil)) (blkOk_by (own := [("at", 4)]) (N := N_that_do) (sc := defScope s_that_do) (by decide +kernel)) (fun _ _ _ _ _ => (pg_name (i := 4) sc_that_do.nd rfl (by first | exact Or.inl rfl | exact Or.inr rfl))) (fun _ _ _ _ _ => (pts_one (pt_val (pe_callN d_does (hr.mono (by decide)) rfl (pa_cons (pv 0) (pa_cons (pv 4) (pa_cons (pv 1) (pa_cons (pv 3) (pa_cons (pv 2) pa_nil))))))))) (fun _ _ _ _ _ => (pv 4))))))
theorem sc_swap : FnScope N_swap ["lib", "numbers", "lists"] (defScope s_swap) := ⟨rfl, rfl, rfl, by decide +kernel, rfl, by decide +kernel, by decide +kernel⟩
theorem der_swap {P : Program} {w : World} {K : PySem.W.Frag} {mg : Str → Option Value} {base : Heap} {A : Around} {outer : List Env} {s : Shared} {H : Hp} {E : XK} {f : Addr} {cdv : Value} (T : Txt K mg) (d_lack_of : Def P w K mg base 2 "lack_of" (sp_lack_of K)) (d_does : Def P w K mg base 4 "does" (sp_does K)) (d_free_for : Def P w K mg base 6 "free_for" (sp_free_for K))
    (hr : Room 6 (A.deeper (envOfC "swap" (defScope s_swap) s.heap.objs.size f cdv))) :
    PSs (cxOf CX0 P w K mg base N_swap "swap" (defScope s_swap) f cdv A outer s H E).nox (defBody s_swap) (t_swap K) :=
  (pss_cons (ps_asg (pv 1) (pg_lst rfl (pgs_cons (pg_name (i := 3) sc_swap.nd rfl (by first | exact Or.inl rfl | exact Or.inr rfl)) (pgs_cons (pg_name (i := 4) sc_swap.nd rfl (by first | exact Or.inl rfl | exact Or.inr rfl)) pgs_nil))))
    (pss_cons (ps_if (PW.pt (pw_or (pt_cmpR op_ge (pv 3) (pe_callB call_len_seq rfl T.len bt_len (pa_cons (pe_fld (pv 0) rfl) pa_nil)) (nomark _)) (pw_or1 (pt_cmpR op_ge (pv 4) (pe_callB call_len_seq rfl T.len bt_len (pa_cons (pe_fld (pv 0) rfl) pa_nil)) (nomark _))))) (pss_one (ps_ret (pe_lst (pa_cons (pe_gint T.NONE_SUCH rfl) pa_nil)))) pss_nil)
    (pss_cons (ps_set (i := 5) sc_swap.nd rfl (by first | exact Or.inl rfl | exact Or.inr rfl) (pe_ix ix_list (pe_fld (pv 0) rfl) (pv 3) (fun _ _ => rfl)))
    (pss_cons (ps_if (pt_cmpR op_ne (pe_fld (pv 5) rfl) (pe_gint T.BOOKED rfl) (nomark _)) (pss_one (ps_ret (pe_lst (pa_cons (pe_gint T.NOT_SO rfl) pa_nil)))) pss_nil)
    (pss_cons (ps_if (pt_cmpR op_eq (pe_fld (pv 5) rfl) (pv 4) (nomark _)) (pss_one (ps_ret (pe_lst (pa_cons (pe_gint T.ALREADY rfl) pa_nil)))) pss_nil)
    (pss_cons (ps_if (pt_not (pt_val (pe_callN d_does (hr.mono (by decide)) rfl (pa_cons (pv 0) (pa_cons (pv 4) (pa_cons (pv 5) (pa_cons (pe_callN d_free_for (hr.mono (by decide)) rfl (pa_cons (pv 0) (pa_cons (pv 5) (pa_cons (pv 3) pa_nil)))) (pa_cons (pv 3) pa_nil)))))))) (pss_one (ps_ret (pe_lst (pa_cons (pe_gint T.CANNOT_BE rfl) pa_nil)))) pss_nil)
    (pss_cons (ps_set (i := 6) sc_swap.nd rfl (by first | exact Or.inl rfl | exact Or.inr rfl) (pe_fld (pv 5) rfl))
    (pss_cons (ps_fld (pv 5) (pv 4) rfl)
    (pss_cons (ps_fld (pv 5) (pe_callN d_lack_of (hr.mono (by decide)) rfl (pa_cons (pe_ix ix_list (pe_fld (pv 0) rfl) (pv 4) (fun _ _ => rfl)) (pa_cons (pe_fld (pv 5) rfl) pa_nil))) rfl)
    (pss_one (ps_ret (pe_op op_cat (pe_lst (pa_cons (pv 6) pa_nil)) (pe_fld (pv 5) rfl)))))))))))))
end Pl

namespace Pl
open PySem PySem.Spec PyProof.Rows L2
theorem sc_longer : FnScope N_longer ["lib", "numbers", "lists"] (defScope s_longer) := ⟨rfl, rfl, rfl, by decide +kernel, rfl, by decide +kernel, by decide +kernel⟩
theorem der_longer {P : Program} {w : World} {K : PySem.W.Frag} {mg : Str → Option Value} {base : Heap} {A : Around} {outer : List Env} {s : Shared} {H : Hp} {E : XK} {f : Addr} {cdv : Value} (T : Txt K mg) (d_is_any_in_way : Def P w K mg base 6 "is_any_in_way" (sp_is_any_in_way K)) (d_is_on : Def P w K mg base 1 "is_on" (sp_is_on K))
    (hr : Room 6 (A.deeper (envOfC "longer" (defScope s_longer) s.heap.objs.size f cdv))) :
    PSs (cxOf CX0 P w K mg base N_longer "longer" (defScope s_longer) f cdv A outer s H E).nox (defBody s_longer) (t_longer K) :=
  (pss_cons (ps_asg (pv 1) (pg_lst rfl (pgs_cons (pg_name (i := 3) sc_longer.nd rfl (by first | exact Or.inl rfl | exact Or.inr rfl)) (pgs_cons (pg_name (i := 4) sc_longer.nd rfl (by first | exact Or.inl rfl | exact Or.inr rfl)) pgs_nil))))
    (pss_cons (ps_if (pt_cmpR op_ge (pv 3) (pe_callB call_len_seq rfl T.len bt_len (pa_cons (pe_fld (pv 0) rfl) pa_nil)) (nomark _)) (pss_one (ps_ret (pe_lst (pa_cons (pe_gint T.NONE_SUCH rfl) pa_nil)))) pss_nil)
    (pss_cons (ps_set (i := 5) sc_longer.nd rfl (by first | exact Or.inl rfl | exact Or.inr rfl) (pe_ix ix_list (pe_fld (pv 0) rfl) (pv 3) (fun _ _ => rfl)))
    (pss_cons (ps_if (pt_not (pt_val (pe_callN d_is_on (hr.mono (by decide)) rfl (pa_cons (pv 5) pa_nil)))) (pss_one (ps_ret (pe_lst (pa_cons (pe_gint T.NOT_SO rfl) pa_nil)))) pss_nil)
    (pss_cons (ps_set (i := 6) sc_longer.nd rfl (by first | exact Or.inl rfl | exact Or.inr rfl) (pe_op op_add (pe_fld (pv 5) rfl) (pv 4)))
    (pss_cons (ps_if (PW.pt (pw_or (pt_cmpR op_eq (pv 4) pe_int (nomark _)) (pw_or (pt_cmpR op_gt (pv 6) (pe_gint T.MOST_DAYS rfl) (nomark _)) (pw_or1 (pt_cmpR op_gt (pe_op op_add (pe_fld (pv 5) rfl) (pv 6)) (pe_gint T.END_OF_DAYS rfl) (nomark _)))))) (pss_one (ps_ret (pe_lst (pa_cons (pe_gint T.OUT_OF_RANGE rfl) pa_nil)))) pss_nil)
    (pss_cons (ps_if (pt_val (pe_callN d_is_any_in_way (hr.mono (by decide)) rfl (pa_cons (pv 0) (pa_cons (pv 3) (pa_cons (pv 6) pa_nil))))) (pss_one (ps_ret (pe_lst (pa_cons (pe_gint T.CANNOT_BE rfl) pa_nil)))) pss_nil)
    (pss_cons (ps_fld (pv 5) (pv 6) rfl)
    (pss_one (ps_ret (pe_lst (pa_cons (pv 6) pa_nil))))))))))))
theorem sc_slack : FnScope N_slack ["lib", "numbers", "lists"] (defScope s_slack) := ⟨rfl, rfl, rfl, by decide +kernel, rfl, by decide +kernel, by decide +kernel⟩
theorem der_slack {P : Program} {w : World} {K : PySem.W.Frag} {mg : Str → Option Value} {base : Heap} {A : Around} {outer : List Env} {s : Shared} {H : Hp} {E : XK} {f : Addr} {cdv : Value} (T : Txt K mg) (d_is_any_in_way : Def P w K mg base 6 "is_any_in_way" (sp_is_any_in_way K)) (d_is_on : Def P w K mg base 1 "is_on" (sp_is_on K)) (d_is_in_way : Def P w K mg base 5 "is_in_way" (sp_is_in_way K))
    (hr : Room 6 (A.deeper (envOfC "slack" (defScope s_slack) s.heap.objs.size f cdv))) :
    PSs (cxOf CX0 P w K mg base N_slack "slack" (defScope s_slack) f cdv A outer s H E).nox (defBody s_slack) (t_slack K) :=
  (pss_cons (ps_set (i := 3) sc_slack.nd rfl (by first | exact Or.inl rfl | exact Or.inr rfl) (pe_ix ix_list (pv 1) pe_int (fun _ _ => rfl)))
    (pss_cons (ps_if (pt_cmpR op_ge (pv 3) (pe_callB call_len_seq rfl T.len bt_len (pa_cons (pe_fld (pv 0) rfl) pa_nil)) (nomark _)) (pss_one (ps_ret (pe_lst (pa_cons (pe_gint T.NONE_SUCH rfl) pa_nil)))) pss_nil)
    (pss_cons (ps_set (i := 4) sc_slack.nd rfl (by first | exact Or.inl rfl | exact Or.inr rfl) (pe_ix ix_list (pe_fld (pv 0) rfl) (pv 3) (fun _ _ => rfl)))
    (pss_cons (ps_if (pt_not (pt_val (pe_callN d_is_on (hr.mono (by decide)) rfl (pa_cons (pv 4) pa_nil)))) (pss_one (ps_ret (pe_lst (pa_cons (pe_gint T.NOT_SO rfl) pa_nil)))) pss_nil)
    (pss_cons (ps_if (pt_val (pe_callN d_is_any_in_way (hr.mono (by decide)) rfl (pa_cons (pv 0) (pa_cons (pv 3) (pa_cons (pe_fld (pv 4) rfl) pa_nil))))) (pss_one (ps_ret (pe_lst (pa_cons pe_int pa_nil)))) pss_nil)
    (pss_cons (ps_set (i := 5) sc_slack.nd rfl (by first | exact Or.inl rfl | exact Or.inr rfl) (pe_op op_add (pe_op op_add (pe_fld (pv 4) rfl) (pe_fld (pv 4) rfl)) (pe_fld (pv 0) rfl)))
    (pss_cons (ps_for PassesOwn.never rfl (pi_range1 rfl T.range (pa_cons (pe_gint T.MOST_DAYS rfl) pa_nil)) (pg_name (i := 6) sc_slack.nd rfl (by first | exact Or.inl rfl | exact Or.inr rfl)) (pss_one (ps_if (pt_val (pe_callN d_is_in_way (hr.mono (by decide)) rfl (pa_cons (pv 0) (pa_cons (pv 3) (pa_cons (pe_op op_add (pv 5) (pv 6)) pa_nil))))) (pss_one (ps_ret (pe_lst (pa_cons (pv 6) pa_nil)))) pss_nil)))
    (pss_one (ps_ret (pe_lst (pa_cons (pe_gint T.MOST_DAYS rfl) pa_nil)))))))))))
theorem sc_hire : FnScope N_hire ["lib", "numbers", "lists"] (defScope s_hire) := ⟨rfl, rfl, rfl, by decide +kernel, rfl, by decide +kernel, by decide +kernel⟩
theorem der_hire {P : Program} {w : World} {K : PySem.W.Frag} {mg : Str → Option Value} {base : Heap} {A : Around} {outer : List Env} {s : Shared} {H : Hp} {E : XK} {f : Addr} {cdv : Value} (T : Txt K mg) (d_init_Hiring : Ini P w K mg base 1 "Hiring" (sp_init_Hiring K)) (d_that_do : Def P w K mg base 7 "that_do" (sp_that_do K)) (d_best_of : Def P w K mg base 4 "best_of" (sp_best_of K)) (d_lack_of : Def P w K mg base 2 "lack_of" (sp_lack_of K)) (d_are_parts : Def P w K mg base 1 "are_parts" (sp_are_parts K)) (d_are_days_right : Def P w K mg base 1 "are_days_right" (sp_are_days_right K))
    (hr : Room 7 (A.deeper (envOfC "hire" (defScope s_hire) s.heap.objs.size f cdv))) :
    PSs (cxOf CX0 P w K mg base N_hire "hire" (defScope s_hire) f cdv A outer s H E).nox (defBody s_hire) (t_hire K) :=
  (pss_cons (ps_asg (pv 1) (pg_lst rfl (pgs_cons (pg_name (i := 3) sc_hire.nd rfl (by first | exact Or.inl rfl | exact Or.inr rfl)) (pgs_cons (pg_name (i := 4) sc_hire.nd rfl (by first | exact Or.inl rfl | exact Or.inr rfl)) (pgs_cons (pg_name (i := 5) sc_hire.nd rfl (by first | exact Or.inl rfl | exact Or.inr rfl)) (pgs_cons (pg_name (i := 6) sc_hire.nd rfl (by first | exact Or.inl rfl | exact Or.inr rfl)) (pgs_cons (pg_name (i := 7) sc_hire.nd rfl (by first | exact Or.inl rfl | exact Or.inr rfl)) pgs_nil)))))))
    (pss_cons (ps_if (pt_cmpR op_ge (pv 3) (pe_callB call_len_seq rfl T.len bt_len (pa_cons (pe_fld (pv 0) rfl) pa_nil)) (nomark _)) (pss_one (ps_ret (pe_lst (pa_cons (pe_gint T.NONE_SUCH rfl) pa_nil)))) pss_nil)
    (pss_cons (ps_if (PW.pt (pw_or (pt_not (pt_val (pe_callN d_are_days_right (hr.mono (by decide)) rfl (pa_cons (pv 0) (pa_cons (pv 4) (pa_cons (pv 5) pa_nil)))))) (pw_or (pt_not (pt_chain op_le op_le pe_int (pv 6) (pe_gint T.MOST_CONCERTS rfl))) (pw_or1 (pt_cmpR op_gt (pv 7) pe_int (nomark _)))))) (pss_one (ps_ret (pe_lst (pa_cons (pe_gint T.OUT_OF_RANGE rfl) pa_nil)))) pss_nil)
    (pss_cons (ps_if (pt_not (pt_val (pe_callN d_are_parts (hr.mono (by decide)) rfl (pa_cons (pe_ix ix_list (pv 2) pe_int (fun _ _ => rfl)) pa_nil)))) (pss_one (ps_ret (pe_lst (pa_cons (pe_gint T.OUT_OF_RANGE rfl) pa_nil)))) pss_nil)
    (pss_cons (ps_if (pt_cmpR op_eq (pe_callB call_len_seq rfl T.len bt_len (pa_cons (pe_fld (pv 0) rfl) pa_nil)) (pe_gint T.MOST_HIRINGS rfl) (nomark _)) (pss_one (ps_ret (pe_lst (pa_cons (pe_gint T.TOO_MANY rfl) pa_nil)))) pss_nil)
    (pss_cons (ps_set (i := 8) sc_hire.nd rfl (by first | exact Or.inl rfl | exact Or.inr rfl) (pe_makeN d_init_Hiring (hr.mono (by decide)) rfl (pa_cons (pv 3) (pa_cons (pv 4) (pa_cons (pv 5) (pa_cons (pv 6) (pa_cons (pv 7) (pa_cons (pe_callTy call_list_of rfl T.list bt_list (pa_cons (pe_ix ix_list (pv 2) pe_int (fun _ _ => rfl)) pa_nil)) pa_nil))))))))
    (pss_cons (ps_set (i := 9) sc_hire.nd rfl (by first | exact Or.inl rfl | exact Or.inr rfl) (pe_callN d_that_do (hr.mono (by decide)) rfl (pa_cons (pv 0) (pa_cons (pv 8) (pa_cons (pe_gint T.NO_HIRING rfl) pa_nil)))))
    (pss_cons (ps_if (pt_cmpR (op_eqD hr.units) (pv 9) (pe_lst pa_nil) (nomark _)) (pss_one (ps_ret (pe_lst (pa_cons (pe_gint T.CANNOT_BE rfl) pa_nil)))) pss_nil)
    (pss_cons (ps_fld (pv 8) (pe_callN d_best_of (hr.mono (by decide)) rfl (pa_cons (pv 0) (pa_cons (pv 9) (pa_cons (pe_fld (pv 8) rfl) pa_nil)))) rfl)
    (pss_cons (ps_fld (pv 8) (pe_callN d_lack_of (hr.mono (by decide)) rfl (pa_cons (pe_ix ix_list (pe_fld (pv 0) rfl) (pe_fld (pv 8) rfl) (fun _ _ => rfl)) (pa_cons (pe_fld (pv 8) rfl) pa_nil))) rfl)
    (pss_cons (ps_expr (pe_bm PySem.F.plainAttrs_list PySem.F.slot_list_append PySem.F.type_list_append mt_append (pe_fld (pv 0) rfl) (pa_cons (pv 8) pa_nil)))
    (pss_one (ps_ret (pe_op op_cat (pe_lst (pa_cons (pe_op op_sub (pe_callB call_len_seq rfl T.len bt_len (pa_cons (pe_fld (pv 0) rfl) pa_nil)) pe_int) (pa_cons (pe_fld (pv 8) rfl) pa_nil))) (pe_fld (pv 8) rfl)))))))))))))))
theorem sc_some_that_do : FnScope N_some_that_do ["lib", "numbers", "desks"] (defScope s_some_that_do) := ⟨rfl, rfl, rfl, by decide +kernel, rfl, by decide +kernel, by decide +kernel⟩
theorem der_some_that_do {P : Program} {w : World} {K : PySem.W.Frag} {mg : Str → Option Value} {base : Heap} {A : Around} {outer : List Env} {s : Shared} {H : Hp} {E : XK} {f : Addr} {cdv : Value} (T : Txt K mg) (d_that_do : Def P w K mg base 7 "that_do" (sp_that_do K)) (d_init_Hiring : Ini P w K mg base 1 "Hiring" (sp_init_Hiring K))
    (hr : Room 7 (A.deeper (envOfC "some_that_do" (defScope s_some_that_do) s.heap.objs.size f cdv))) :
    PSs (cxOf CX0 P w K mg base N_some_that_do "some_that_do" (defScope s_some_that_do) f cdv A outer s H E).nox (defBody s_some_that_do) (t_some_that_do K) :=
  (pss_cons (ps_asg (pv 1) (pg_lst rfl (pgs_cons (pg_name (i := 3) sc_some_that_do.nd rfl (by first | exact Or.inl rfl | exact Or.inr rfl)) (pgs_cons (pg_name (i := 4) sc_some_that_do.nd rfl (by first | exact Or.inl rfl | exact Or.inr rfl)) (pgs_cons (pg_name (i := 5) sc_some_that_do.nd rfl (by first | exact Or.inl rfl | exact Or.inr rfl)) pgs_nil)))))
    (pss_one (ps_ret (pe_callN d_that_do (hr.mono (by decide)) rfl (pa_cons (pv 0) (pa_cons (pe_makeN d_init_Hiring (hr.mono (by decide)) rfl (pa_cons (pv 3) (pa_cons (pv 4) (pa_cons (pv 5) (pa_cons pe_int (pa_cons pe_int (pa_cons (pe_callTy call_list_of rfl T.list bt_list (pa_cons (pv 2) pa_nil)) pa_nil))))))) (pa_cons (pe_gint T.NO_HIRING rfl) pa_nil)))))))
theorem sc_could : FnScope N_could ["lib", "numbers", "lists"] (defScope s_could) := ⟨rfl, rfl, rfl, by decide +kernel, rfl, by decide +kernel, by decide +kernel⟩
theorem der_could {P : Program} {w : World} {K : PySem.W.Frag} {mg : Str → Option Value} {base : Heap} {A : Around} {outer : List Env} {s : Shared} {H : Hp} {E : XK} {f : Addr} {cdv : Value} (T : Txt K mg) (d_why_not_asked : Def P w K mg base 2 "why_not_asked" (sp_why_not_asked K)) (d_some_that_do : Def P w K mg base 8 "some_that_do" (sp_some_that_do K))
    (hr : Room 8 (A.deeper (envOfC "could" (defScope s_could) s.heap.objs.size f cdv))) :
    PSs (cxOf CX0 P w K mg base N_could "could" (defScope s_could) f cdv A outer s H E).nox (defBody s_could) (t_could K) :=
  (pss_cons (ps_set (i := 3) sc_could.nd rfl (by first | exact Or.inl rfl | exact Or.inr rfl) (pe_callN d_why_not_asked (hr.mono (by decide)) rfl (pa_cons (pv 0) (pa_cons (pv 1) (pa_cons (pe_ix ix_list (pv 2) pe_int (fun _ _ => rfl)) pa_nil)))))
    (pss_cons (ps_if (pt_cmpR op_ne (pv 3) pe_int (nomark _)) (pss_one (ps_ret (pe_lst (pa_cons (pv 3) pa_nil)))) pss_nil)
    (pss_one (ps_ret (pe_lst (pa_cons (pe_callTy call_int1 rfl T.int bt_int (pa_cons (pe_cmpR (op_neD hr.units) (pe_callN d_some_that_do (hr.mono (by decide)) rfl (pa_cons (pv 0) (pa_cons (pv 1) (pa_cons (pe_ix ix_list (pv 2) pe_int (fun _ _ => rfl)) pa_nil)))) (pe_lst pa_nil) (nomark _)) pa_nil)) pa_nil))))))
theorem sc_choices : FnScope N_choices ["lib", "numbers", "lists"] (defScope s_choices) := ⟨rfl, rfl, rfl, by decide +kernel, rfl, by decide +kernel, by decide +kernel⟩
theorem der_choices {P : Program} {w : World} {K : PySem.W.Frag} {mg : Str → Option Value} {base : Heap} {A : Around} {outer : List Env} {s : Shared} {H : Hp} {E : XK} {f : Addr} {cdv : Value} (T : Txt K mg) (d_why_not_asked : Def P w K mg base 2 "why_not_asked" (sp_why_not_asked K)) (d_some_that_do : Def P w K mg base 8 "some_that_do" (sp_some_that_do K)) (d_extra_of : Def P w K mg base 2 "extra_of" (sp_extra_of K)) (d_lack_of : Def P w K mg base 2 "lack_of" (sp_lack_of K))
    (hr : Room 8 (A.deeper (envOfC "choices" (defScope s_choices) s.heap.objs.size f cdv))) :
    PSs (cxOf CX0 P w K mg base N_choices "choices" (defScope s_choices) f cdv A outer s H E).nox (defBody s_choices) (t_choices K) :=
  (pss_cons (ps_set (i := 3) sc_choices.nd rfl (by first | exact Or.inl rfl | exact Or.inr rfl) (pe_callN d_why_not_asked (hr.mono (by decide)) rfl (pa_cons (pv 0) (pa_cons (pv 1) (pa_cons (pe_ix ix_list (pv 2) pe_int (fun _ _ => rfl)) pa_nil)))))
    (pss_cons (ps_if (pt_cmpR op_ne (pv 3) pe_int (nomark _)) (pss_one (ps_ret (pe_lst (pa_cons (pv 3) pa_nil)))) pss_nil)
    (pss_cons (ps_set (i := 4) sc_choices.nd rfl (by first | exact Or.inl rfl | exact Or.inr rfl) (pe_callN d_some_that_do (hr.mono (by decide)) rfl (pa_cons (pv 0) (pa_cons (pv 1) (pa_cons (pe_ix ix_list (pv 2) pe_int (fun _ _ => rfl)) pa_nil)))))
    (pss_cons (ps_set (i := 5) sc_choices.nd rfl (by first | exact Or.inl rfl | exact Or.inr rfl) (pe_lst (pa_cons (pe_callB call_len_seq rfl T.len bt_len (pa_cons (pv 4) pa_nil)) pa_nil)))
    (pss_cons (ps_for PassesOwn.never rfl (pi_list (pv 4)) (pg_name (i := 6) sc_choices.nd rfl (by first | exact Or.inl rfl | exact Or.inr rfl)) (pss_cons (ps_set (i := 7) sc_choices.nd rfl (by first | exact Or.inl rfl | exact Or.inr rfl) (pe_ix ix_list (pe_fld (pv 0) rfl) (pv 6) (fun _ _ => rfl)))
    (pss_one (ps_expr (pe_bm PySem.F.plainAttrs_list PySem.F.slot_list_extend PySem.F.type_list_extend mt_extend (pv 5) (pa_cons (pe_lst (pa_cons (pv 6) (pa_cons (pe_callB (cr_sum rfl) rfl T.sum bt_sum (pa_cons (pe_callN d_lack_of (hr.mono (by decide)) rfl (pa_cons (pv 7) (pa_cons (pe_ix ix_list (pv 2) pe_int (fun _ _ => rfl)) pa_nil))) pa_nil)) (pa_cons (pe_callN d_extra_of (hr.mono (by decide)) rfl (pa_cons (pv 7) (pa_cons (pe_ix ix_list (pv 2) pe_int (fun _ _ => rfl)) pa_nil))) pa_nil)))) pa_nil))))))
    (pss_one (ps_ret (pv 5))))))))
theorem sc_answer_to : FnScope N_answer_to ["lib", "code", "numbers", "lists"] (defScope s_answer_to) := ⟨rfl, rfl, rfl, by decide +kernel, rfl, by decide +kernel, by decide +kernel⟩
theorem der_answer_to {P : Program} {w : World} {K : PySem.W.Frag} {mg : Str → Option Value} {base : Heap} {A : Around} {outer : List Env} {s : Shared} {H : Hp} {E : XK} {f : Addr} {cdv : Value} (T : Txt K mg) (hD : ∀ g sp, deeds K g sp → Held P w K mg base 9 g sp)
    (hr : Room 9 (A.deeper (envOfC "answer_to" (defScope s_answer_to) s.heap.objs.size f cdv))) :
    PSs (cxOf CX0 P w K mg base N_answer_to "answer_to" (defScope s_answer_to) f cdv A outer s H E).nox (defBody s_answer_to) (t_answer_to K) :=
  (pss_cons (ps_if (PW.pt (pw_and (pt_cmpR op_ne (pv 1) (pe_gint T.BEGIN rfl) (nomark _)) (pw_and1 (pt_not (pt_val (pe_fld (pv 0) rfl)))))) (pss_one (ps_ret (pe_lst (pa_cons (pe_gint T.NOT_BEGUN rfl) pa_nil)))) pss_nil)
    (pss_cons (ps_set (i := 4) sc_answer_to.nd rfl (by first | exact Or.inl rfl | exact Or.inr rfl) (pe_ix ix_tup (pe_gref T.DEEDS rfl) (pv 1) (fun _ _ => rfl)))
    (pss_one (ps_ret (pe_callR (S := deeds K) hD (hr.mono (by decide)) rfl (by first | exact Or.inl rfl | exact Or.inr (Or.inl rfl)) (pa_cons (pv 0) (pa_cons (pv 2) (pa_cons (pv 3) pa_nil))))))))
theorem sc_answers : FnScope N_answers ["calls"] (defScope s_answers) := ⟨rfl, rfl, rfl, by decide +kernel, rfl, by decide +kernel, by decide +kernel⟩
theorem der_answers {P : Program} {w : World} {K : PySem.W.Frag} {mg : Str → Option Value} {base : Heap} {A : Around} {outer : List Env} {s : Shared} {H : Hp} {E : XK} {f : Addr} {cdv : Value} (T : Txt K mg) (d_init_Library : Ini P w K mg base 1 "Library" (sp_init_Library K)) (d_rows_at : Def P w K mg base 1 "rows_at" (sp_rows_at K)) (d_answer_to : Def P w K mg base 10 "answer_to" (sp_answer_to K))
    (hr : Room 10 (A.deeper (envOfC "answers" (defScope s_answers) s.heap.objs.size f cdv))) :
    PSs (cxOf CX0 P w K mg base N_answers "answers" (defScope s_answers) f cdv A outer s H E).nox (defBody s_answers) (t_answers K) :=
  (pss_cons (ps_set (i := 1) sc_answers.nd rfl (by first | exact Or.inl rfl | exact Or.inr rfl) (pe_makeN0 d_init_Library (hr.mono (by decide)) rfl))
    (pss_cons (ps_set (i := 2) sc_answers.nd rfl (by first | exact Or.inl rfl | exact Or.inr rfl) (pe_lst pa_nil))
    (pss_cons (ps_set (i := 3) sc_answers.nd rfl (by first | exact Or.inl rfl | exact Or.inr rfl) pe_int)
    (pss_cons (ps_while PassesOwn.never (pt_cmpR op_lt (pv 3) (pe_callB call_len_seq rfl T.len bt_len (pa_cons (pv 0) pa_nil)) (nomark _)) (pss_cons (ps_set (i := 4) sc_answers.nd rfl (by first | exact Or.inl rfl | exact Or.inr rfl) (pe_ix ix_list (pv 0) (pv 3) (fun _ _ => rfl)))
    (pss_cons (ps_set (i := 5) sc_answers.nd rfl (by first | exact Or.inl rfl | exact Or.inr rfl) (pe_op op_add (pe_op op_add (pv 3) pe_int) (pe_ix ix_tup (pe_gref T.PLAIN rfl) (pv 4) (fun _ _ => rfl))))
    (pss_cons (ps_set (i := 6) sc_answers.nd rfl (by first | exact Or.inl rfl | exact Or.inr rfl) (pe_slice sl_list (pv 0) (po_some (pe_op op_add (pv 3) pe_int)) (po_some (pv 5))))
    (pss_cons (ps_asg (pe_callN d_rows_at (hr.mono (by decide)) rfl (pa_cons (pv 0) (pa_cons (pv 5) (pa_cons (pe_ix ix_tup (pe_gref T.ROWS rfl) (pv 4) (fun _ _ => rfl)) pa_nil)))) (pg_tup rfl (pgs_cons (pg_name (i := 7) sc_answers.nd rfl (by first | exact Or.inl rfl | exact Or.inr rfl)) (pgs_cons (pg_name (i := 3) sc_answers.nd rfl (by first | exact Or.inl rfl | exact Or.inr rfl)) pgs_nil))))
    (pss_cons (ps_set (i := 8) sc_answers.nd rfl (by first | exact Or.inl rfl | exact Or.inr rfl) (pe_callN d_answer_to (hr.mono (by decide)) rfl (pa_cons (pv 1) (pa_cons (pv 4) (pa_cons (pv 6) (pa_cons (pv 7) pa_nil))))))
    (pss_cons (ps_expr (pe_bm PySem.F.plainAttrs_list PySem.F.slot_list_append PySem.F.type_list_append mt_append (pv 2) (pa_cons (pe_callB call_len_seq rfl T.len bt_len (pa_cons (pv 8) pa_nil)) pa_nil)))
    (pss_one (ps_expr (pe_bm PySem.F.plainAttrs_list PySem.F.slot_list_extend PySem.F.type_list_extend mt_extend (pv 2) (pa_cons (pv 8) pa_nil)))))))))))
    (pss_one (ps_ret (pv 2)))))))
end Pl

/-! ### the defs keep their promises -/
namespace Pl
open PySem PySem.Spec PyProof.Rows L2
theorem len_deed {K : PySem.W.Frag} {k : Nat} : ∀ vs H Q E, spDeed K k vs H Q E → vs.length = 3 := fun vs H Q E h => by
  obtain ⟨_, _, _, _, _, _, _, _, _, _, rfl, _⟩ := h
  rfl
section
variable {P : Program} {w : World} {K : PySem.W.Frag} {mg : Str → Option Value} {base : Heap}
theorem mkDef {x : Str} {st : Stmt} {N ps : List Str} {k : Nat} {sp : Sp} (F : ∃ fd, FnP K x x st (He.ga K x) fd) (S : FnScope N ps (defScope st)) (hm : mg x = some (.ref (He.ga K x))) (len : ∀ vs H Q E, sp vs H Q E → vs.length = ps.length)
    (hbind : ∀ (kV doc pm : Value) (an : Option Addr) (cdv ct : Value) (us : List Value), us.length = ps.length → bindArgs (PySem.W.fnOf x x (defArgs st) (defBody st) (defScope st) .none kV doc pm an cdv ct) ⟨us, []⟩ = pure (ps.zip us))
    (body : ∀ (cdv : Value) (A : Around) (outer : List Env) (s : Shared) (H : Hp) (vs : List V) (Q : VK) (E : XK), Room k (A.deeper (envOfC x (defScope st) s.heap.objs.size (He.ga K x) cdv)) → sp vs H Q E →
      ∃ t, PSs (cxOf CX0 P w K mg base N x (defScope st) (He.ga K x) cdv A outer s H E).nox (defBody st) t ∧ t { nx := fun _ H' => Q .non H', rt := Q } (start N vs) H) : Def P w K mg base (k + 1) x sp := by
  obtain ⟨fd, F⟩ := F
  exact ⟨_, fd, ps, F.ok S len fun cdv A outer s H vs Q E hr h => let ⟨t, h1, h2⟩ := body cdv A outer s H vs Q E hr h; ⟨t, h1.nox, h2⟩, F.kp, F.bindsN hbind, hm, rfl⟩
theorem mkIni {x q : Str} {st : Stmt} {N ps : List Str} {k : Nat} {sp : Sp} {f : Addr} (F : ∃ fd, FnP K "__init__" q st f fd) (M : Mk K (He.ga K x) f) (S : FnScope N ps (defScope st)) (hm : mg x = some (.ref (He.ga K x))) (len : ∀ vs H Q E, sp vs H Q E → vs.length = ps.length)
    (hbind : ∀ (kV doc pm : Value) (an : Option Addr) (cdv ct : Value) (us : List Value), us.length = ps.length → bindArgs (PySem.W.fnOf "__init__" q (defArgs st) (defBody st) (defScope st) .none kV doc pm an cdv ct) ⟨us, []⟩ = pure (ps.zip us))
    (body : ∀ (cdv : Value) (A : Around) (outer : List Env) (s : Shared) (H : Hp) (vs : List V) (Q : VK) (E : XK), Room k (A.deeper (envOfC q (defScope st) s.heap.objs.size f cdv)) → sp vs H Q E →
      ∃ t, PSs (cxOf CX0 P w K mg base N q (defScope st) f cdv A outer s H E).nox (defBody st) t ∧ t { nx := fun _ H' => Q .non H', rt := Q } (start N vs) H) : Ini P w K mg base (k + 1) x sp := by
  obtain ⟨fd, F⟩ := F
  exact ⟨f, fd, ps, F.ok S len fun cdv A outer s H vs Q E hr h => let ⟨t, h1, h2⟩ := body cdv A outer s H vs Q E hr h; ⟨t, h1.nox, h2⟩, M, F.bindsN hbind, hm⟩
theorem Def.held {k j : Nat} {x : Str} {sp : Sp} (D : Def P w K mg base k x sp) (h : k ≤ j) : Held P w K mg base j (He.ga K x) sp := by
  obtain ⟨f, fd, ps, F, hk, hb, hm, hf⟩ := D.ex
  subst hf
  exact ⟨fd, ps, F.mono h, hk, hb⟩
theorem D_init_Work (T : Txt K mg) : Ini P w K mg base 1 "Work" (sp_init_Work K) := mkIni T.f_init_Work T.m_Work sc_init_Work T.g_Work (fun vs H Q E h => by obtain ⟨_, _, _, _, _, _, rfl, _⟩ := h; rfl) (fun _ _ _ _ _ _ us hl => match us, hl with | [_, _, _, _, _], _ => rfl)
  fun cdv A outer s H vs Q E hr h => ⟨t_init_Work K, der_init_Work T hr, rd_init_Work T h⟩
theorem D_init_Kit (T : Txt K mg) : Ini P w K mg base 1 "Kit" (sp_init_Kit K) := mkIni T.f_init_Kit T.m_Kit sc_init_Kit T.g_Kit (fun vs H Q E h => by obtain ⟨_, _, _, _, rfl, _⟩ := h; rfl) (fun _ _ _ _ _ _ us hl => match us, hl with | [_, _, _], _ => rfl)
  fun cdv A outer s H vs Q E hr h => ⟨t_init_Kit K, der_init_Kit T hr, rd_init_Kit T h⟩
theorem D_init_Hiring (T : Txt K mg) : Ini P w K mg base 1 "Hiring" (sp_init_Hiring K) := mkIni T.f_init_Hiring T.m_Hiring sc_init_Hiring T.g_Hiring (fun vs H Q E h => by obtain ⟨_, _, _, _, _, _, _, _, rfl, _⟩ := h; rfl) (fun _ _ _ _ _ _ us hl => match us, hl with | [_, _, _, _, _, _, _], _ => rfl)
  fun cdv A outer s H vs Q E hr h => ⟨t_init_Hiring K, der_init_Hiring T hr, rd_init_Hiring T h⟩
theorem D_init_Library (T : Txt K mg) : Ini P w K mg base 1 "Library" (sp_init_Library K) := mkIni T.f_init_Library T.m_Library sc_init_Library T.g_Library (fun vs H Q E h => by obtain ⟨_, _, rfl, _⟩ := h; rfl) (fun _ _ _ _ _ _ us hl => match us, hl with | [_], _ => rfl)
  fun cdv A outer s H vs Q E hr h => ⟨t_init_Library K, der_init_Library T hr, rd_init_Library T h⟩
theorem D_are_parts (T : Txt K mg) : Def P w K mg base 1 "are_parts" (sp_are_parts K) := mkDef T.f_are_parts sc_are_parts T.g_are_parts (fun vs H Q E ⟨d, h, _⟩ => by obtain ⟨_, _, rfl, _⟩ := h; rfl) (fun _ _ _ _ _ _ us hl => match us, hl with | [_], _ => rfl)
  fun cdv A outer s H vs Q E hr h => ⟨t_are_parts K, der_are_parts T hr, let ⟨d, h1, h2⟩ := h; go_fn (rd_are_parts T h1) h2⟩
theorem D_there_of (T : Txt K mg) : Def P w K mg base 1 "there_of" (sp_there_of K) := mkDef T.f_there_of sc_there_of T.g_there_of (fun vs H Q E ⟨d, h, _⟩ => by obtain ⟨_, _, rfl, _⟩ := h; rfl) (fun _ _ _ _ _ _ us hl => match us, hl with | [_], _ => rfl)
  fun cdv A outer s H vs Q E hr h => ⟨t_there_of K, der_there_of T hr, let ⟨d, h1, h2⟩ := h; go_fn (rd_there_of T h1) h2⟩
theorem D_last_day (T : Txt K mg) : Def P w K mg base 1 "last_day" (sp_last_day K) := mkDef T.f_last_day sc_last_day T.g_last_day (fun vs H Q E ⟨d, h, _⟩ => by obtain ⟨_, _, rfl, _⟩ := h; rfl) (fun _ _ _ _ _ _ us hl => match us, hl with | [_], _ => rfl)
  fun cdv A outer s H vs Q E hr h => ⟨t_last_day K, der_last_day T hr, let ⟨d, h1, h2⟩ := h; go_fn (rd_last_day T h1) h2⟩
theorem D_is_on (T : Txt K mg) : Def P w K mg base 1 "is_on" (sp_is_on K) := mkDef T.f_is_on sc_is_on T.g_is_on (fun vs H Q E ⟨d, h, _⟩ => by obtain ⟨_, _, rfl, _⟩ := h; rfl) (fun _ _ _ _ _ _ us hl => match us, hl with | [_], _ => rfl)
  fun cdv A outer s H vs Q E hr h => ⟨t_is_on K, der_is_on T hr, let ⟨d, h1, h2⟩ := h; go_fn (rd_is_on T h1) h2⟩
theorem D_is_out (T : Txt K mg) : Def P w K mg base 1 "is_out" (sp_is_out K) := mkDef T.f_is_out sc_is_out T.g_is_out (fun vs H Q E ⟨d, h, _⟩ => by obtain ⟨_, _, _, _, _, rfl, _⟩ := h; rfl) (fun _ _ _ _ _ _ us hl => match us, hl with | [_, _], _ => rfl)
  fun cdv A outer s H vs Q E hr h => ⟨t_is_out K, der_is_out T hr, let ⟨d, h1, h2⟩ := h; go_fn (rd_is_out T h1) h2⟩
theorem D_are_enough (T : Txt K mg) : Def P w K mg base 1 "are_enough" (sp_are_enough K) := mkDef T.f_are_enough sc_are_enough T.g_are_enough (fun vs H Q E ⟨d, h, _⟩ => by obtain ⟨_, _, _, _, rfl, _⟩ := h; rfl) (fun _ _ _ _ _ _ us hl => match us, hl with | [_, _], _ => rfl)
  fun cdv A outer s H vs Q E hr h => ⟨t_are_enough K, der_are_enough T hr, let ⟨d, h1, h2⟩ := h; go_fn (rd_are_enough T h1) h2⟩
theorem D_end_of (T : Txt K mg) : Def P w K mg base 1 "end_of" (sp_end_of K) := mkDef T.f_end_of sc_end_of T.g_end_of (fun vs H Q E ⟨d, h, _⟩ => by obtain ⟨_, _, _, _, _, _, rfl, _⟩ := h; rfl) (fun _ _ _ _ _ _ us hl => match us, hl with | [_, _, _], _ => rfl)
  fun cdv A outer s H vs Q E hr h => ⟨t_end_of K, der_end_of T hr, let ⟨d, h1, h2⟩ := h; go_fn (rd_end_of T h1) h2⟩
theorem D_are_days_right (T : Txt K mg) : Def P w K mg base 1 "are_days_right" (sp_are_days_right K) := mkDef T.f_are_days_right sc_are_days_right T.g_are_days_right (fun vs H Q E ⟨d, h, _⟩ => by obtain ⟨_, _, _, _, _, _, rfl, _⟩ := h; rfl) (fun _ _ _ _ _ _ us hl => match us, hl with | [_, _, _], _ => rfl)
  fun cdv A outer s H vs Q E hr h => ⟨t_are_days_right K, der_are_days_right T hr, let ⟨d, h1, h2⟩ := h; go_fn (rd_are_days_right T h1) h2⟩
theorem D_cancel (T : Txt K mg) : Def P w K mg base 1 "cancel" (sp_cancel K) := mkDef T.f_cancel sc_cancel T.g_cancel len_deed (fun _ _ _ _ _ _ us hl => match us, hl with | [_, _, _], _ => rfl)
  fun cdv A outer s H vs Q E hr h => ⟨t_cancel K, der_cancel T hr, rd_cancel T h⟩
theorem D_begin (T : Txt K mg) : Def P w K mg base 1 "begin" (sp_begin K) := mkDef T.f_begin sc_begin T.g_begin len_deed (fun _ _ _ _ _ _ us hl => match us, hl with | [_, _, _], _ => rfl)
  fun cdv A outer s H vs Q E hr h => ⟨t_begin K, der_begin T hr, rd_begin T h⟩
theorem D_put_loose (T : Txt K mg) : Def P w K mg base 1 "put_loose" (sp_put_loose K) := mkDef T.f_put_loose sc_put_loose T.g_put_loose len_deed (fun _ _ _ _ _ _ us hl => match us, hl with | [_, _, _], _ => rfl)
  fun cdv A outer s H vs Q E hr h => ⟨t_put_loose K, der_put_loose T hr, rd_put_loose T h⟩
theorem D_are_winds (T : Txt K mg) : Def P w K mg base 1 "are_winds" (sp_are_winds K) := mkDef T.f_are_winds sc_are_winds T.g_are_winds (fun vs H Q E ⟨d, h, _⟩ => by obtain ⟨_, _, _, _, rfl, _⟩ := h; rfl) (fun _ _ _ _ _ _ us hl => match us, hl with | [_, _], _ => rfl)
  fun cdv A outer s H vs Q E hr h => ⟨t_are_winds K, der_are_winds T hr, let ⟨d, h1, h2⟩ := h; go_fn (rd_are_winds T h1) h2⟩
theorem D_lose_strings (T : Txt K mg) : Def P w K mg base 1 "lose_strings" (sp_lose_strings K) := mkDef T.f_lose_strings sc_lose_strings T.g_lose_strings (fun vs H Q E h => by obtain ⟨_, _, _, _, _, _, _, rfl, _⟩ := h; rfl) (fun _ _ _ _ _ _ us hl => match us, hl with | [_, _, _], _ => rfl)
  fun cdv A outer s H vs Q E hr h => ⟨t_lose_strings K, der_lose_strings T hr, rd_lose_strings T h⟩
theorem D_go_on (T : Txt K mg) : Def P w K mg base 1 "go_on" (sp_go_on K) := mkDef T.f_go_on sc_go_on T.g_go_on len_deed (fun _ _ _ _ _ _ us hl => match us, hl with | [_, _, _], _ => rfl)
  fun cdv A outer s H vs Q E hr h => ⟨t_go_on K, der_go_on T hr, rd_go_on T h⟩
theorem D_lost (T : Txt K mg) : Def P w K mg base 1 "lost" (sp_lost K) := mkDef T.f_lost sc_lost T.g_lost len_deed (fun _ _ _ _ _ _ us hl => match us, hl with | [_, _, _], _ => rfl)
  fun cdv A outer s H vs Q E hr h => ⟨t_lost K, der_lost T hr, rd_lost T h⟩
theorem D_torn (T : Txt K mg) : Def P w K mg base 1 "torn" (sp_torn K) := mkDef T.f_torn sc_torn T.g_torn len_deed (fun _ _ _ _ _ _ us hl => match us, hl with | [_, _, _], _ => rfl)
  fun cdv A outer s H vs Q E hr h => ⟨t_torn K, der_torn T hr, rd_torn T h⟩
theorem D_look (T : Txt K mg) : Def P w K mg base 1 "look" (sp_look K) := mkDef T.f_look sc_look T.g_look len_deed (fun _ _ _ _ _ _ us hl => match us, hl with | [_, _, _], _ => rfl)
  fun cdv A outer s H vs Q E hr h => ⟨t_look K, der_look T hr, rd_look T h⟩
theorem D_marks (T : Txt K mg) : Def P w K mg base 1 "marks" (sp_marks K) := mkDef T.f_marks sc_marks T.g_marks len_deed (fun _ _ _ _ _ _ us hl => match us, hl with | [_, _, _], _ => rfl)
  fun cdv A outer s H vs Q E hr h => ⟨t_marks K, der_marks T hr, rd_marks T h⟩
theorem D_sums (T : Txt K mg) : Def P w K mg base 1 "sums" (sp_sums K) := mkDef T.f_sums sc_sums T.g_sums len_deed (fun _ _ _ _ _ _ us hl => match us, hl with | [_, _, _], _ => rfl)
  fun cdv A outer s H vs Q E hr h => ⟨t_sums K, der_sums T hr, rd_sums T h⟩
theorem D_state (T : Txt K mg) : Def P w K mg base 1 "state" (sp_state K) := mkDef T.f_state sc_state T.g_state len_deed (fun _ _ _ _ _ _ us hl => match us, hl with | [_, _, _], _ => rfl)
  fun cdv A outer s H vs Q E hr h => ⟨t_state K, der_state T hr, rd_state T h⟩
theorem D_rows_at (T : Txt K mg) : Def P w K mg base 1 "rows_at" (sp_rows_at K) := mkDef T.f_rows_at sc_rows_at T.g_rows_at (fun vs H Q E h => by obtain ⟨_, _, _, _, _, rfl, _⟩ := h; rfl) (fun _ _ _ _ _ _ us hl => match us, hl with | [_, _, _], _ => rfl)
  fun cdv A outer s H vs Q E hr h => ⟨t_rows_at K, der_rows_at T hr, rd_rows_at T h⟩
theorem D_over_day (T : Txt K mg) : Def P w K mg base 2 "over_day" (sp_over_day K) := mkDef T.f_over_day sc_over_day T.g_over_day (fun vs H Q E ⟨d, h, _⟩ => by obtain ⟨_, _, _, _, _, _, rfl, _⟩ := h; rfl) (fun _ _ _ _ _ _ us hl => match us, hl with | [_, _], _ => rfl)
  fun cdv A outer s H vs Q E hr h => ⟨t_over_day K, der_over_day T (D_last_day T) hr, let ⟨d, h1, h2⟩ := h; go_fn (rd_over_day T h1) h2⟩
theorem D_late_by (T : Txt K mg) : Def P w K mg base 2 "late_by" (sp_late_by K) := mkDef T.f_late_by sc_late_by T.g_late_by (fun vs H Q E ⟨d, h, _⟩ => by obtain ⟨_, _, _, _, _, _, rfl, _⟩ := h; rfl) (fun _ _ _ _ _ _ us hl => match us, hl with | [_, _], _ => rfl)
  fun cdv A outer s H vs Q E hr h => ⟨t_late_by K, der_late_by T (D_last_day T) hr, let ⟨d, h1, h2⟩ := h; go_fn (rd_late_by T h1) h2⟩
theorem D_others_of (T : Txt K mg) : Def P w K mg base 2 "others_of" (sp_others_of K) := mkDef T.f_others_of sc_others_of T.g_others_of (fun vs H Q E ⟨d, h, _⟩ => by obtain ⟨_, _, _, _, _, _, rfl, _⟩ := h; rfl) (fun _ _ _ _ _ _ us hl => match us, hl with | [_, _, _], _ => rfl)
  fun cdv A outer s H vs Q E hr h => ⟨t_others_of K, der_others_of T (D_is_on T) hr, let ⟨d, h1, h2⟩ := h; go_fn (rd_others_of T h1) h2⟩
theorem D_lack_of (T : Txt K mg) : Def P w K mg base 2 "lack_of" (sp_lack_of K) := mkDef T.f_lack_of sc_lack_of T.g_lack_of (fun vs H Q E ⟨d, h, _⟩ => by obtain ⟨_, _, _, _, rfl, _⟩ := h; rfl) (fun _ _ _ _ _ _ us hl => match us, hl with | [_, _], _ => rfl)
  fun cdv A outer s H vs Q E hr h => ⟨t_lack_of K, der_lack_of T (D_there_of T) hr, let ⟨d, h1, h2⟩ := h; go_fn (rd_lack_of T h1) h2⟩
theorem D_extra_of (T : Txt K mg) : Def P w K mg base 2 "extra_of" (sp_extra_of K) := mkDef T.f_extra_of sc_extra_of T.g_extra_of (fun vs H Q E ⟨d, h, _⟩ => by obtain ⟨_, _, _, _, rfl, _⟩ := h; rfl) (fun _ _ _ _ _ _ us hl => match us, hl with | [_, _], _ => rfl)
  fun cdv A outer s H vs Q E hr h => ⟨t_extra_of K, der_extra_of T (D_there_of T) hr, let ⟨d, h1, h2⟩ := h; go_fn (rd_extra_of T h1) h2⟩
theorem D_sent_of (T : Txt K mg) : Def P w K mg base 2 "sent_of" (sp_sent_of K) := mkDef T.f_sent_of sc_sent_of T.g_sent_of (fun vs H Q E ⟨d, h, _⟩ => by obtain ⟨_, _, _, _, _, _, rfl, _⟩ := h; rfl) (fun _ _ _ _ _ _ us hl => match us, hl with | [_, _], _ => rfl)
  fun cdv A outer s H vs Q E hr h => ⟨t_sent_of K, der_sent_of T (D_there_of T) hr, let ⟨d, h1, h2⟩ := h; go_fn (rd_sent_of T h1) h2⟩
theorem D_replace (T : Txt K mg) : Def P w K mg base 2 "replace" (sp_replace K) := mkDef T.f_replace sc_replace T.g_replace len_deed (fun _ _ _ _ _ _ us hl => match us, hl with | [_, _, _], _ => rfl)
  fun cdv A outer s H vs Q E hr h => ⟨t_replace K, der_replace T (D_is_out T) hr, rd_replace T h⟩
theorem D_rub (T : Txt K mg) : Def P w K mg base 2 "rub" (sp_rub K) := mkDef T.f_rub sc_rub T.g_rub len_deed (fun _ _ _ _ _ _ us hl => match us, hl with | [_, _, _], _ => rfl)
  fun cdv A outer s H vs Q E hr h => ⟨t_rub K, der_rub T (D_is_out T) hr, rd_rub T h⟩
theorem D_why_not_asked (T : Txt K mg) : Def P w K mg base 2 "why_not_asked" (sp_why_not_asked K) := mkDef T.f_why_not_asked sc_why_not_asked T.g_why_not_asked (fun vs H Q E ⟨d, h, _⟩ => by obtain ⟨_, _, _, _, _, _, _, _, _, _, rfl, _⟩ := h; rfl) (fun _ _ _ _ _ _ us hl => match us, hl with | [_, _, _], _ => rfl)
  fun cdv A outer s H vs Q E hr h => ⟨t_why_not_asked K, der_why_not_asked T (D_are_days_right T) (D_are_parts T) hr, let ⟨d, h1, h2⟩ := h; go_fn (rd_why_not_asked T h1) h2⟩
theorem D_plan (T : Txt K mg) : Def P w K mg base 2 "plan" (sp_plan K) := mkDef T.f_plan sc_plan T.g_plan len_deed (fun _ _ _ _ _ _ us hl => match us, hl with | [_, _, _], _ => rfl)
  fun cdv A outer s H vs Q E hr h => ⟨t_plan K, der_plan T (D_is_on T) hr, rd_plan T h⟩
theorem D_due (T : Txt K mg) : Def P w K mg base 2 "due" (sp_due K) := mkDef T.f_due sc_due T.g_due len_deed (fun _ _ _ _ _ _ us hl => match us, hl with | [_, _, _], _ => rfl)
  fun cdv A outer s H vs Q E hr h => ⟨t_due K, der_due T (D_last_day T) hr, rd_due T h⟩
theorem D_has (T : Txt K mg) : Def P w K mg base 2 "has" (sp_has K) := mkDef T.f_has sc_has T.g_has len_deed (fun _ _ _ _ _ _ us hl => match us, hl with | [_, _, _], _ => rfl)
  fun cdv A outer s H vs Q E hr h => ⟨t_has K, der_has T (D_there_of T) hr, rd_has T h⟩
theorem D_shelf (T : Txt K mg) : Def P w K mg base 2 "shelf" (sp_shelf K) := mkDef T.f_shelf sc_shelf T.g_shelf len_deed (fun _ _ _ _ _ _ us hl => match us, hl with | [_, _, _], _ => rfl)
  fun cdv A outer s H vs Q E hr h => ⟨t_shelf K, der_shelf T (D_is_out T) hr, rd_shelf T h⟩
theorem D_has_on (T : Txt K mg) : Def P w K mg base 3 "has_on" (sp_has_on K) := mkDef T.f_has_on sc_has_on T.g_has_on (fun vs H Q E ⟨d, h, _⟩ => by obtain ⟨_, _, _, _, _, _, _, rfl, _⟩ := h; rfl) (fun _ _ _ _ _ _ us hl => match us, hl with | [_, _, _], _ => rfl)
  fun cdv A outer s H vs Q E hr h => ⟨t_has_on K, der_has_on T (D_is_on T) (D_over_day T) hr, let ⟨d, h1, h2⟩ := h; go_fn (rd_has_on T h1) h2⟩
theorem D_is_kit_free (T : Txt K mg) : Def P w K mg base 3 "is_kit_free" (sp_is_kit_free K) := mkDef T.f_is_kit_free sc_is_kit_free T.g_is_kit_free (fun vs H Q E ⟨d, h, _⟩ => by obtain ⟨_, _, _, _, _, _, _, _, rfl, _⟩ := h; rfl) (fun _ _ _ _ _ _ us hl => match us, hl with | [_, _, _, _, _], _ => rfl)
  fun cdv A outer s H vs Q E hr h => ⟨t_is_kit_free K, der_is_kit_free T (D_is_on T) (D_over_day T) hr, let ⟨d, h1, h2⟩ := h; go_fn (rd_is_kit_free T h1) h2⟩
theorem D_rank_of (T : Txt K mg) : Def P w K mg base 3 "rank_of" (sp_rank_of K) := mkDef T.f_rank_of sc_rank_of T.g_rank_of (fun vs H Q E ⟨d, h, _⟩ => by obtain ⟨_, _, _, _, _, _, _, rfl, _⟩ := h; rfl) (fun _ _ _ _ _ _ us hl => match us, hl with | [_, _, _], _ => rfl)
  fun cdv A outer s H vs Q E hr h => ⟨t_rank_of K, der_rank_of T (D_extra_of T) (D_lack_of T) hr, let ⟨d, h1, h2⟩ := h; go_fn (rd_rank_of T h1) h2⟩
theorem D_put_work (T : Txt K mg) : Def P w K mg base 3 "put_work" (sp_put_work K) := mkDef T.f_put_work sc_put_work T.g_put_work len_deed (fun _ _ _ _ _ _ us hl => match us, hl with | [_, _, _], _ => rfl)
  fun cdv A outer s H vs Q E hr h => ⟨t_put_work K, der_put_work T (D_init_Work T) hr, rd_put_work T h⟩
theorem D_put_kit (T : Txt K mg) : Def P w K mg base 3 "put_kit" (sp_put_kit K) := mkDef T.f_put_kit sc_put_kit T.g_put_kit len_deed (fun _ _ _ _ _ _ us hl => match us, hl with | [_, _, _], _ => rfl)
  fun cdv A outer s H vs Q E hr h => ⟨t_put_kit K, der_put_kit T (D_are_parts T) (D_init_Kit T) hr, rd_put_kit T h⟩
theorem D_are_lost (T : Txt K mg) : Def P w K mg base 3 "are_lost" (sp_are_lost K) := mkDef T.f_are_lost sc_are_lost T.g_are_lost (fun vs H Q E ⟨d, h, _⟩ => by obtain ⟨_, _, _, _, _, _, _, _, rfl, _⟩ := h; rfl) (fun _ _ _ _ _ _ us hl => match us, hl with | [_, _, _], _ => rfl)
  fun cdv A outer s H vs Q E hr h => ⟨t_are_lost K, der_are_lost T (D_sent_of T) hr, let ⟨d, h1, h2⟩ := h; go_fn (rd_are_lost T h1) h2⟩
theorem D_bill_of (T : Txt K mg) : Def P w K mg base 3 "bill_of" (sp_bill_of K) := mkDef T.f_bill_of sc_bill_of T.g_bill_of (fun vs H Q E ⟨d, h, _⟩ => by obtain ⟨_, _, _, _, _, _, _, rfl, _⟩ := h; rfl) (fun _ _ _ _ _ _ us hl => match us, hl with | [_, _, _], _ => rfl)
  fun cdv A outer s H vs Q E hr h => ⟨t_bill_of K, der_bill_of T (D_late_by T) hr, let ⟨d, h1, h2⟩ := h; go_fn (rd_bill_of T h1) h2⟩
theorem D_lacks (T : Txt K mg) : Def P w K mg base 3 "lacks" (sp_lacks K) := mkDef T.f_lacks sc_lacks T.g_lacks len_deed (fun _ _ _ _ _ _ us hl => match us, hl with | [_, _, _], _ => rfl)
  fun cdv A outer s H vs Q E hr h => ⟨t_lacks K, der_lacks T (D_lack_of T) (D_are_parts T) hr, rd_lacks T h⟩
theorem D_late (T : Txt K mg) : Def P w K mg base 3 "late" (sp_late K) := mkDef T.f_late sc_late T.g_late len_deed (fun _ _ _ _ _ _ us hl => match us, hl with | [_, _, _], _ => rfl)
  fun cdv A outer s H vs Q E hr h => ⟨t_late K, der_late T (D_over_day T) (D_late_by T) hr, rd_late T h⟩
theorem D_free_on (T : Txt K mg) : Def P w K mg base 4 "free_on" (sp_free_on K) := mkDef T.f_free_on sc_free_on T.g_free_on (fun vs H Q E ⟨d, h, _⟩ => by obtain ⟨_, _, _, _, _, _, _, rfl, _⟩ := h; rfl) (fun _ _ _ _ _ _ us hl => match us, hl with | [_, _, _, _], _ => rfl)
  fun cdv A outer s H vs Q E hr h => ⟨t_free_on K, der_free_on T (D_others_of T) (D_has_on T) hr, let ⟨d, h1, h2⟩ := h; go_fn (rd_free_on T h1) h2⟩
theorem D_does (T : Txt K mg) : Def P w K mg base 4 "does" (sp_does K) := mkDef T.f_does sc_does T.g_does (fun vs H Q E ⟨d, h, _⟩ => by obtain ⟨_, _, _, _, _, _, _, _, _, rfl, _⟩ := h; rfl) (fun _ _ _ _ _ _ us hl => match us, hl with | [_, _, _, _, _], _ => rfl)
  fun cdv A outer s H vs Q E hr h => ⟨t_does K, der_does T (D_are_enough T) (D_is_kit_free T) (D_lack_of T) (D_end_of T) hr, let ⟨d, h1, h2⟩ := h; go_fn (rd_does T h1) h2⟩
theorem D_best_of (T : Txt K mg) : Def P w K mg base 4 "best_of" (sp_best_of K) := mkDef T.f_best_of sc_best_of T.g_best_of (fun vs H Q E ⟨d, h, _⟩ => by obtain ⟨_, _, _, _, _, _, _, _, _, rfl, _⟩ := h; rfl) (fun _ _ _ _ _ _ us hl => match us, hl with | [_, _, _], _ => rfl)
  fun cdv A outer s H vs Q E hr h => ⟨t_best_of K, der_best_of T (D_rank_of T) hr, let ⟨d, h1, h2⟩ := h; go_fn (rd_best_of T h1) h2⟩
theorem D_back (T : Txt K mg) : Def P w K mg base 4 "back" (sp_back K) := mkDef T.f_back sc_back T.g_back len_deed (fun _ _ _ _ _ _ us hl => match us, hl with | [_, _, _], _ => rfl)
  fun cdv A outer s H vs Q E hr h => ⟨t_back K, der_back T (D_bill_of T) (D_lose_strings T) (D_late_by T) (D_are_winds T) (D_are_lost T) hr, rd_back T h⟩
theorem D_having_on (T : Txt K mg) : Def P w K mg base 4 "having_on" (sp_having_on K) := mkDef T.f_having_on sc_having_on T.g_having_on (fun vs H Q E ⟨d, h, _⟩ => by obtain ⟨_, _, _, _, _, _, rfl, _⟩ := h; rfl) (fun _ _ _ _ _ _ us hl => match us, hl with | [_, _, _], _ => rfl)
  fun cdv A outer s H vs Q E hr h => ⟨t_having_on K, der_having_on T (D_has_on T) hr, let ⟨d, h1, h2⟩ := h; go_fn (rd_having_on T h1) h2⟩
theorem D_bill (T : Txt K mg) : Def P w K mg base 4 "bill" (sp_bill K) := mkDef T.f_bill sc_bill T.g_bill len_deed (fun _ _ _ _ _ _ us hl => match us, hl with | [_, _, _], _ => rfl)
  fun cdv A outer s H vs Q E hr h => ⟨t_bill K, der_bill T (D_is_on T) (D_bill_of T) hr, rd_bill T h⟩
theorem D_least_free (T : Txt K mg) : Def P w K mg base 5 "least_free" (sp_least_free K) := mkDef T.f_least_free sc_least_free T.g_least_free (fun vs H Q E ⟨d, h, _⟩ => by obtain ⟨_, _, _, _, _, _, _, _, rfl, _⟩ := h; rfl) (fun _ _ _ _ _ _ us hl => match us, hl with | [_, _, _, _, _], _ => rfl)
  fun cdv A outer s H vs Q E hr h => ⟨t_least_free K, der_least_free T (D_free_on T) hr, let ⟨d, h1, h2⟩ := h; go_fn (rd_least_free T h1) h2⟩
theorem D_is_in_way (T : Txt K mg) : Def P w K mg base 5 "is_in_way" (sp_is_in_way K) := mkDef T.f_is_in_way sc_is_in_way T.g_is_in_way (fun vs H Q E ⟨d, h, _⟩ => by obtain ⟨_, _, _, _, _, _, rfl, _⟩ := h; rfl) (fun _ _ _ _ _ _ us hl => match us, hl with | [_, _, _], _ => rfl)
  fun cdv A outer s H vs Q E hr h => ⟨t_is_in_way K, der_is_in_way T (D_are_enough T) (D_has_on T) (D_free_on T) hr, let ⟨d, h1, h2⟩ := h; go_fn (rd_is_in_way T h1) h2⟩
theorem D_why_not_sent (T : Txt K mg) : Def P w K mg base 5 "why_not_sent" (sp_why_not_sent K) := mkDef T.f_why_not_sent sc_why_not_sent T.g_why_not_sent (fun vs H Q E ⟨d, h, _⟩ => by obtain ⟨_, _, _, _, _, rfl, _⟩ := h; rfl) (fun _ _ _ _ _ _ us hl => match us, hl with | [_, _], _ => rfl)
  fun cdv A outer s H vs Q E hr h => ⟨t_why_not_sent K, der_why_not_sent T (D_is_out T) (D_lack_of T) (D_are_enough T) (D_free_on T) hr, let ⟨d, h1, h2⟩ := h; go_fn (rd_why_not_sent T h1) h2⟩
theorem D_most (T : Txt K mg) : Def P w K mg base 5 "most" (sp_most K) := mkDef T.f_most sc_most T.g_most len_deed (fun _ _ _ _ _ _ us hl => match us, hl with | [_, _, _], _ => rfl)
  fun cdv A outer s H vs Q E hr h => ⟨t_most K, der_most T (D_having_on T) (D_is_on T) hr, rd_most T h⟩
theorem D_free (T : Txt K mg) : Def P w K mg base 5 "free" (sp_free K) := mkDef T.f_free sc_free T.g_free len_deed (fun _ _ _ _ _ _ us hl => match us, hl with | [_, _, _], _ => rfl)
  fun cdv A outer s H vs Q E hr h => ⟨t_free K, der_free T (D_free_on T) hr, rd_free T h⟩
theorem D_free_for (T : Txt K mg) : Def P w K mg base 6 "free_for" (sp_free_for K) := mkDef T.f_free_for sc_free_for T.g_free_for (fun vs H Q E ⟨d, h, _⟩ => by obtain ⟨_, _, _, _, _, _, _, rfl, _⟩ := h; rfl) (fun _ _ _ _ _ _ us hl => match us, hl with | [_, _, _], _ => rfl)
  fun cdv A outer s H vs Q E hr h => ⟨t_free_for K, der_free_for T (D_least_free T) (D_end_of T) hr, let ⟨d, h1, h2⟩ := h; go_fn (rd_free_for T h1) h2⟩
theorem D_is_any_in_way (T : Txt K mg) : Def P w K mg base 6 "is_any_in_way" (sp_is_any_in_way K) := mkDef T.f_is_any_in_way sc_is_any_in_way T.g_is_any_in_way (fun vs H Q E ⟨d, h, _⟩ => by obtain ⟨_, _, _, _, _, _, rfl, _⟩ := h; rfl) (fun _ _ _ _ _ _ us hl => match us, hl with | [_, _, _], _ => rfl)
  fun cdv A outer s H vs Q E hr h => ⟨t_is_any_in_way K, der_is_any_in_way T (D_is_in_way T) hr, let ⟨d, h1, h2⟩ := h; go_fn (rd_is_any_in_way T h1) h2⟩
theorem D_send (T : Txt K mg) : Def P w K mg base 6 "send" (sp_send K) := mkDef T.f_send sc_send T.g_send len_deed (fun _ _ _ _ _ _ us hl => match us, hl with | [_, _, _], _ => rfl)
  fun cdv A outer s H vs Q E hr h => ⟨t_send K, der_send T (D_why_not_sent T) (D_sent_of T) hr, rd_send T h⟩
theorem D_that_do (T : Txt K mg) : Def P w K mg base 7 "that_do" (sp_that_do K) := mkDef T.f_that_do sc_that_do T.g_that_do (fun vs H Q E ⟨d, h, _⟩ => by obtain ⟨_, _, _, _, _, _, _, rfl, _⟩ := h; rfl) (fun _ _ _ _ _ _ us hl => match us, hl with | [_, _, _], _ => rfl)
  fun cdv A outer s H vs Q E hr h => ⟨t_that_do K, der_that_do T (D_free_for T) (D_does T) hr, let ⟨d, h1, h2⟩ := h; go_fn (rd_that_do T h1) h2⟩
theorem D_swap (T : Txt K mg) : Def P w K mg base 7 "swap" (sp_swap K) := mkDef T.f_swap sc_swap T.g_swap len_deed (fun _ _ _ _ _ _ us hl => match us, hl with | [_, _, _], _ => rfl)
  fun cdv A outer s H vs Q E hr h => ⟨t_swap K, der_swap T (D_lack_of T) (D_does T) (D_free_for T) hr, rd_swap T h⟩
theorem D_longer (T : Txt K mg) : Def P w K mg base 7 "longer" (sp_longer K) := mkDef T.f_longer sc_longer T.g_longer len_deed (fun _ _ _ _ _ _ us hl => match us, hl with | [_, _, _], _ => rfl)
  fun cdv A outer s H vs Q E hr h => ⟨t_longer K, der_longer T (D_is_any_in_way T) (D_is_on T) hr, rd_longer T h⟩
theorem D_slack (T : Txt K mg) : Def P w K mg base 7 "slack" (sp_slack K) := mkDef T.f_slack sc_slack T.g_slack len_deed (fun _ _ _ _ _ _ us hl => match us, hl with | [_, _, _], _ => rfl)
  fun cdv A outer s H vs Q E hr h => ⟨t_slack K, der_slack T (D_is_any_in_way T) (D_is_on T) (D_is_in_way T) hr, rd_slack T h⟩
theorem D_hire (T : Txt K mg) : Def P w K mg base 8 "hire" (sp_hire K) := mkDef T.f_hire sc_hire T.g_hire len_deed (fun _ _ _ _ _ _ us hl => match us, hl with | [_, _, _], _ => rfl)
  fun cdv A outer s H vs Q E hr h => ⟨t_hire K, der_hire T (D_init_Hiring T) (D_that_do T) (D_best_of T) (D_lack_of T) (D_are_parts T) (D_are_days_right T) hr, rd_hire T h⟩
theorem D_some_that_do (T : Txt K mg) : Def P w K mg base 8 "some_that_do" (sp_some_that_do K) := mkDef T.f_some_that_do sc_some_that_do T.g_some_that_do (fun vs H Q E ⟨d, h, _⟩ => by obtain ⟨_, _, _, _, _, _, _, _, _, _, rfl, _⟩ := h; rfl) (fun _ _ _ _ _ _ us hl => match us, hl with | [_, _, _], _ => rfl)
  fun cdv A outer s H vs Q E hr h => ⟨t_some_that_do K, der_some_that_do T (D_that_do T) (D_init_Hiring T) hr, let ⟨d, h1, h2⟩ := h; go_fn (rd_some_that_do T h1) h2⟩
theorem D_could (T : Txt K mg) : Def P w K mg base 9 "could" (sp_could K) := mkDef T.f_could sc_could T.g_could len_deed (fun _ _ _ _ _ _ us hl => match us, hl with | [_, _, _], _ => rfl)
  fun cdv A outer s H vs Q E hr h => ⟨t_could K, der_could T (D_why_not_asked T) (D_some_that_do T) hr, rd_could T h⟩
theorem D_choices (T : Txt K mg) : Def P w K mg base 9 "choices" (sp_choices K) := mkDef T.f_choices sc_choices T.g_choices len_deed (fun _ _ _ _ _ _ us hl => match us, hl with | [_, _, _], _ => rfl)
  fun cdv A outer s H vs Q E hr h => ⟨t_choices K, der_choices T (D_why_not_asked T) (D_some_that_do T) (D_extra_of T) (D_lack_of T) hr, rd_choices T h⟩
theorem D_deeds (T : Txt K mg) : ∀ g sp, deeds K g sp → Held P w K mg base 9 g sp := fun g sp ⟨k, x, hx, hg, hs⟩ => by
  subst hg hs
  match k, hx with
  | 0, hx =>
    have e : ("begin" : Str) = x := He.Dv.glo.inj (Option.some.inj hx)
    rw [← e]
    exact (D_begin T).held (by decide)
  | 1, hx =>
    have e : ("put_work" : Str) = x := He.Dv.glo.inj (Option.some.inj hx)
    rw [← e]
    exact (D_put_work T).held (by decide)
  | 2, hx =>
    have e : ("put_kit" : Str) = x := He.Dv.glo.inj (Option.some.inj hx)
    rw [← e]
    exact (D_put_kit T).held (by decide)
  | 3, hx =>
    have e : ("put_loose" : Str) = x := He.Dv.glo.inj (Option.some.inj hx)
    rw [← e]
    exact (D_put_loose T).held (by decide)
  | 4, hx =>
    have e : ("hire" : Str) = x := He.Dv.glo.inj (Option.some.inj hx)
    rw [← e]
    exact (D_hire T).held (by decide)
  | 5, hx =>
    have e : ("cancel" : Str) = x := He.Dv.glo.inj (Option.some.inj hx)
    rw [← e]
    exact (D_cancel T).held (by decide)
  | 6, hx =>
    have e : ("send" : Str) = x := He.Dv.glo.inj (Option.some.inj hx)
    rw [← e]
    exact (D_send T).held (by decide)
  | 7, hx =>
    have e : ("back" : Str) = x := He.Dv.glo.inj (Option.some.inj hx)
    rw [← e]
    exact (D_back T).held (by decide)
  | 8, hx =>
    have e : ("replace" : Str) = x := He.Dv.glo.inj (Option.some.inj hx)
    rw [← e]
    exact (D_replace T).held (by decide)
  | 9, hx =>
    have e : ("rub" : Str) = x := He.Dv.glo.inj (Option.some.inj hx)
    rw [← e]
    exact (D_rub T).held (by decide)
  | 10, hx =>
    have e : ("longer" : Str) = x := He.Dv.glo.inj (Option.some.inj hx)
    rw [← e]
    exact (D_longer T).held (by decide)
  | 11, hx =>
    have e : ("swap" : Str) = x := He.Dv.glo.inj (Option.some.inj hx)
    rw [← e]
    exact (D_swap T).held (by decide)
  | 12, hx =>
    have e : ("go_on" : Str) = x := He.Dv.glo.inj (Option.some.inj hx)
    rw [← e]
    exact (D_go_on T).held (by decide)
  | 13, hx =>
    have e : ("could" : Str) = x := He.Dv.glo.inj (Option.some.inj hx)
    rw [← e]
    exact (D_could T).held (by decide)
  | 14, hx =>
    have e : ("choices" : Str) = x := He.Dv.glo.inj (Option.some.inj hx)
    rw [← e]
    exact (D_choices T).held (by decide)
  | 15, hx =>
    have e : ("slack" : Str) = x := He.Dv.glo.inj (Option.some.inj hx)
    rw [← e]
    exact (D_slack T).held (by decide)
  | 16, hx =>
    have e : ("most" : Str) = x := He.Dv.glo.inj (Option.some.inj hx)
    rw [← e]
    exact (D_most T).held (by decide)
  | 17, hx =>
    have e : ("free" : Str) = x := He.Dv.glo.inj (Option.some.inj hx)
    rw [← e]
    exact (D_free T).held (by decide)
  | 18, hx =>
    have e : ("lacks" : Str) = x := He.Dv.glo.inj (Option.some.inj hx)
    rw [← e]
    exact (D_lacks T).held (by decide)
  | 19, hx =>
    have e : ("plan" : Str) = x := He.Dv.glo.inj (Option.some.inj hx)
    rw [← e]
    exact (D_plan T).held (by decide)
  | 20, hx =>
    have e : ("due" : Str) = x := He.Dv.glo.inj (Option.some.inj hx)
    rw [← e]
    exact (D_due T).held (by decide)
  | 21, hx =>
    have e : ("lost" : Str) = x := He.Dv.glo.inj (Option.some.inj hx)
    rw [← e]
    exact (D_lost T).held (by decide)
  | 22, hx =>
    have e : ("torn" : Str) = x := He.Dv.glo.inj (Option.some.inj hx)
    rw [← e]
    exact (D_torn T).held (by decide)
  | 23, hx =>
    have e : ("has" : Str) = x := He.Dv.glo.inj (Option.some.inj hx)
    rw [← e]
    exact (D_has T).held (by decide)
  | 24, hx =>
    have e : ("bill" : Str) = x := He.Dv.glo.inj (Option.some.inj hx)
    rw [← e]
    exact (D_bill T).held (by decide)
  | 25, hx =>
    have e : ("late" : Str) = x := He.Dv.glo.inj (Option.some.inj hx)
    rw [← e]
    exact (D_late T).held (by decide)
  | 26, hx =>
    have e : ("shelf" : Str) = x := He.Dv.glo.inj (Option.some.inj hx)
    rw [← e]
    exact (D_shelf T).held (by decide)
  | 27, hx =>
    have e : ("look" : Str) = x := He.Dv.glo.inj (Option.some.inj hx)
    rw [← e]
    exact (D_look T).held (by decide)
  | 28, hx =>
    have e : ("marks" : Str) = x := He.Dv.glo.inj (Option.some.inj hx)
    rw [← e]
    exact (D_marks T).held (by decide)
  | 29, hx =>
    have e : ("sums" : Str) = x := He.Dv.glo.inj (Option.some.inj hx)
    rw [← e]
    exact (D_sums T).held (by decide)
  | 30, hx =>
    have e : ("state" : Str) = x := He.Dv.glo.inj (Option.some.inj hx)
    rw [← e]
    exact (D_state T).held (by decide)
  | n + 31, hx => cases hx
theorem D_answer_to (T : Txt K mg) : Def P w K mg base 10 "answer_to" (sp_answer_to K) := mkDef T.f_answer_to sc_answer_to T.g_answer_to (fun vs H Q E h => by obtain ⟨_, _, _, _, _, _, _, _, _, _, _, rfl, _⟩ := h; rfl) (fun _ _ _ _ _ _ us hl => match us, hl with | [_, _, _, _], _ => rfl)
  fun cdv A outer s H vs Q E hr h => ⟨t_answer_to K, der_answer_to T (D_deeds T) hr, rd_answer_to T h⟩
theorem D_answers (T : Txt K mg) : Def P w K mg base 11 "answers" (sp_answers K) := mkDef T.f_answers sc_answers T.g_answers (fun vs H Q E h => by obtain ⟨_, _, rfl, _⟩ := h; rfl) (fun _ _ _ _ _ _ us hl => match us, hl with | [_], _ => rfl)
  fun cdv A outer s H vs Q E hr h => ⟨t_answers K, der_answers T (D_init_Library T) (D_rows_at T) (D_answer_to T) hr, rd_answers T h⟩
end
end Pl

/-! ### the law -/
namespace Pl
open PySem PySem.Spec PyProof.Rows L2
theorem bind_answers {K : PySem.W.Frag} {fd : FuncData} (F : FnP K "answers" "answers" s_answers (He.ga K "answers") fd) (s : Shared) (us : List Value) (hl : us.length = (["calls"] : List Str).length) : BindsTo s fd ⟨us, []⟩ ((["calls"] : List Str).zip us) :=
  F.bindsA (ps := ["calls"]) (fun _ _ _ _ _ _ us hl => match us, hl with | [_], _ => rfl) s us hl
theorem len_answers {K : PySem.W.Frag} : ∀ vs H Q E, sp_answers K vs H Q E → vs.length = (["calls"] : List Str).length := fun vs H Q E h => by
  obtain ⟨_, _, rfl, _⟩ := h
  rfl
theorem fn_answers {P : Program} {w : World} {K : PySem.W.Frag} {mg : Str → Option Value} {base : Heap} {fd : FuncData} (T : Txt K mg) (F : FnP K "answers" "answers" s_answers (He.ga K "answers") fd) : FnOk P w K mg base CX0 11 (He.ga K "answers") fd ["calls"] (sp_answers K) :=
  F.ok sc_answers len_answers fun cdv A outer s H vs Q E hr h => ⟨t_answers K, (der_answers T (D_init_Library T) (D_rows_at T) (D_answer_to T) hr).nox, rd_answers T h⟩
end Pl
open PySem PySem.W PyProof.Rows
set_option maxRecDepth 100000 in
set_option maxHeartbeats 8000000 in
theorem PySem.Challenge.cw_partlibrary_s01_answers_holds : PySem.Challenge.rw_partlibrary_s01_answers.Holds := by
  w_on
  refine HeadRun.head_spec (r := PySem.Challenge.rw_partlibrary_s01_answers) (q := Pl.qv) (H := Pl.hk) (ob := Pl.ob) (M := 6000) (loose := Pl.names) (d := HeadRun.topDef PySem.Challenge.rw_partlibrary_s01_answers.prog 114) (kwd := []) Pl.ob_eq (by kernel_rfl) (fun s => by kernel_rfl) Pl.run
    (by kernel_rfl) (by kernel_rfl) (by kernel_rfl) os_shapes (by decide +kernel) (by decide +kernel) ⟨rfl, rfl, rfl, rfl, rfl, by decide +kernel⟩ ?hw ?hc
  case hw => exact ⟨[.list [.int 30]], by decide +kernel, by decide +kernel⟩
  case hc =>
    intro w s₀ s₁ mg mb G Y
    obtain ⟨K, KX, c⟩ := Y
    refine L2.walk_spec (r := PySem.Challenge.rw_partlibrary_s01_answers) (k := 11) (ps := ["calls"]) (K := fun _ => K) (CX := fun _ => L2.CX0) (sp := fun _ => Pl.sp_answers K) (YP := fun _ h => K.In h ∧ Pl.SaysP K)
      (by decide +kernel) (by kernel_rfl) rfl ⟨rfl, by decide, by decide⟩ (fun _ _ z => z.1) ?F ?S (fun _ _ _ _ _ z => z) w s₀ s₁ mg mb G ⟨KX, c⟩
    case F =>
      intro w' mg' fa h' _ KX' G' hmg
      have T : Pl.Txt K mg' := ⟨c, h', KX', G'⟩
      have hmg' : mg' "answers" = some (.ref fa) := hmg
      have e := hmg'.symm.trans T.g_answers
      cases e
      obtain ⟨fd, F⟩ := T.f_answers
      exact ⟨fd, Pl.bind_answers F, fun base _ _ => Pl.fn_answers T F⟩
    case S =>
      intro _ H xs a _ _ hask hx
      cases hx with
      | cons h1 h2 =>
        cases h2
        cases h1 with
        | lst hs ha =>
          have e := L2.ints_dw a.1 _ ha
          subst e
          exact ⟨_, a.1, rfl, hs, hask, fun p H' hp => .lst (L2.SqL.of hp) (L2.dw_ints _)⟩
