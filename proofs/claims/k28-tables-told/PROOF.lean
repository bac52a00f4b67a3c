import PyProof.Rows.All
import Wide.All
import OpenK.AllK
import Wide.FinOn
import HandS.ForMost
import HandS.Style
import HandS.IsInst
import HandS.SortInts
import HandS.WideBits
import HandS.WordsExc
import HandS.ListItems
import KE.KDictZip
import KE.KEqDeep
import PySem.Challenge.RW_mirrorsums_k28_tables_told
set_option Elab.async false
set_option linter.all false
set_option maxRecDepth 100000
set_option maxHeartbeats 4000000
/-! list(enumerate(xs)): each pair a new tuple of its own -/
namespace MsE
open PySem PySem.Spec PyProof.Rows L2
theorem enum_len0 : typeLookup (.type "enumerate") "__len__" = pure none := by rw [typeLookup_type, builtinLookup_eq_fast]; kernel_rfl
theorem enum_hint0 : typeLookup (.type "enumerate") "__length_hint__" = pure none := by rw [typeLookup_type, builtinLookup_eq_fast]; kernel_rfl
/-- the pairs so far -/
structure EnG (items : Array Value) (lo : Addr) (h : Heap) (as : List Addr) : Prop where
  up : as.Pairwise (· < ·)
  hi : ∀ a ∈ as, lo < a
  at' : ∀ (j : Nat) (a : Addr), as[j]? = some a → ∃ (v : Value) (t : Tok), items[j]? = some v ∧ h.get? a = some { cls := .type "tuple", data := .seq #[.int (j : Int) t, v] }
theorem EnG.lt {items : Array Value} {lo : Addr} {h : Heap} {as : List Addr} (g : EnG items lo h as) {a : Addr} (ha : a ∈ as) : a < h.objs.size := by
  obtain ⟨j, hj⟩ := List.mem_iff_getElem?.mp ha
  obtain ⟨_, _, _, q⟩ := g.at' j a hj
  exact Heap.lt_size q
theorem EnG.keep {items : Array Value} {lo : Addr} {h h' : Heap} {as : List Addr} (g : EnG items lo h as) (k : ∀ b o, lo < b → h.get? b = some o → h'.get? b = some o) : EnG items lo h' as :=
  ⟨g.up, g.hi, fun j a hj => by
    obtain ⟨v, t, q1, q2⟩ := g.at' j a hj
    exact ⟨v, t, q1, k a _ (g.hi a (List.mem_of_getElem? hj)) q2⟩⟩
theorem EnG.snoc {items : Array Value} {lo : Addr} {h h' : Heap} {as : List Addr} {v : Value} {t : Tok} {b : Addr} (g : EnG items lo h as) (hb : b = h.objs.size) (hlo : lo < h.objs.size)
    (k : ∀ b o, lo < b → h.get? b = some o → h'.get? b = some o) (hv : items[as.length]? = some v) (e : h'.get? b = some { cls := .type "tuple", data := .seq #[.int (as.length : Int) t, v] }) : EnG items lo h' (as ++ [b]) := by
  have g2 := g.keep k
  refine ⟨List.pairwise_append.mpr ⟨g.up, List.pairwise_singleton _ _, fun a ha c hc => ?_⟩, fun a ha => ?_, fun j a hj => ?_⟩
  · rw [List.mem_singleton.mp hc, hb]
    exact g.lt ha
  · rcases List.mem_append.mp ha with ha | ha
    · exact g.hi a ha
    · rw [List.mem_singleton.mp ha, hb]
      exact hlo
  · by_cases hlt : j < as.length
    · rw [List.getElem?_append_left hlt] at hj
      exact g2.at' j a hj
    · rw [List.getElem?_append_right (by omega)] at hj
      by_cases ej : j = as.length
      · subst ej
        rw [Nat.sub_self] at hj
        have ea : b = a := Option.some.inj hj
        subst ea
        exact ⟨v, t, hv, e⟩
      · rw [List.getElem?_eq_none (by rw [List.length_singleton]; omega)] at hj
        cases hj
/-- the enumeration ahead of its i-th pair; S: the list that is being filled -/
structure EnSt (h : Heap) (e it l S : Addr) (items : Array Value) (i : Nat) : Prop where
  hit : h.IsListIter it l i
  hl : h.IsList l items
  own : (∃ old, IsEnum h e it i old) ∨ ∃ old T f oT, IsEnumHeld h e it i old T f ∧ h.get? T = some oT ∧ T ≠ e ∧ T ≠ it ∧ T ≠ S
theorem EnSt.keep {h h' : Heap} {e it l S : Addr} {items : Array Value} {i : Nat} (s : EnSt h e it l S items i) (he : e ≠ S) (hi : it ≠ S) (hl : l ≠ S) (k : ∀ b o, b ≠ S → h.get? b = some o → h'.get? b = some o) : EnSt h' e it l S items i := by
  refine ⟨s.hit.at fun o x => k _ o hi x, s.hl.at fun o x => k _ o hl x, ?_⟩
  rcases s.own with ⟨old, q⟩ | ⟨old, T, f, oT, q, hT, r1, r2, r3⟩
  · exact .inl ⟨old, k _ _ he q⟩
  · exact .inr ⟨old, T, f, oT, k _ _ he q, k _ _ r3 hT, r1, r2, r3⟩
section
variable {prog : Program} {w : World} {A : Around} {E : Value → Shared → Prop} {s : Shared} {e it l S : Addr} {items : Array Value}
theorem en_item {i : Nat} {v : Value} {Q : Option Value → Shared → Prop} (st : EnSt s.heap e it l S items i) (hei : e ≠ it) (hle : l ≠ e) (hli : l ≠ it) (hS : S < s.heap.objs.size) (hv : items[i]? = some v)
    (hQ : ∀ h', EnSt h' e it l S items (i + 1) → h'.get? s.heap.objs.size = some { cls := .type "tuple", data := .seq #[.int (i : Int) s.toks, v] } →
      (∀ b o, b ≠ e → b ≠ it → s.heap.get? b = some o → h'.get? b = some o) → Q (some (.ref s.heap.objs.size)) { s with heap := h', toks := s.toks + 1 }) :
    wpAny (model prog w) A (pyNext (.ref e)) Q E s := by
  have ec : ((i + 1 : Nat) : Int) = (i : Int) + 1 := by omega
  have ni : s.heap.objs.size ≠ it := let ⟨_, x, _⟩ := st.hit; Nat.ne_of_gt (Heap.lt_size x)
  rcases st.own with ⟨old, q⟩ | ⟨old, T, f, oT, q, hT, r1, r2, r3⟩
  · refine wpAny_pyNext_enum_item q st.hit st.hl hv hei fun h' ho hit' hT hsz hk => hQ h' ⟨hit', st.hl.at fun o x => hk l o hle hli x, .inr ⟨v, s.heap.objs.size, false, _, ?_, hT, ?_, ni, Nat.ne_of_gt hS⟩⟩ hT hk
    · rw [ec]
      exact ho
    · exact Nat.ne_of_gt (Heap.lt_size q)
  · refine wpAny_pyNext_enum_item_held q hT r1 r2 st.hit st.hl hv hei fun h' ho hit' hT' hsz hk => hQ h' ⟨hit', st.hl.at fun o x => hk l o hle hli x, .inr ⟨old, T, true, oT, ?_, hk _ _ r1 r2 hT, r1, r2, r3⟩⟩ hT' hk
    rw [ec]
    exact ho
theorem en_done {i : Nat} {Q : Option Value → Shared → Prop} (hh : A.handled = none) (st : EnSt s.heap e it l S items i) (hx : items[i]? = none)
    (hQ : ∀ h', Heap.ExtBut it s.heap h' → Q none { s with heap := h' }) : wpAny (model prog w) A (pyNext (.ref e)) Q E s := by
  rcases st.own with ⟨old, q⟩ | ⟨old, T, f, oT, q, hT, r1, r2, r3⟩
  · exact wpAny_pyNext_enum_end hh q st.hit st.hl hx hQ
  · exact wpAny_pyNext_enum_end_held hh q st.hit st.hl hx hQ
end
section
variable {prog : Program} {w : World} {A : Around} {s : Shared} {R : Result → Shared → Prop} {e it l S : Addr} {items : Array Value}
theorem en_loop (hh : A.handled = none) (hei : e ≠ it) (hle : l ≠ e) (hli : l ≠ it) (heS : e < S) (hiS : it < S) (hlS : l < S) (hn : items.size ≤ sizeLine) (res : Value) {h₁ : Heap}
    (hR : ∀ h' tk acc c as, (∀ b o, b ≠ S → b ≠ e → b ≠ it → h₁.get? b = some o → h'.get? b = some o) → h'.get? S = some { cls := .type "list", dict := none, data := .seq acc c, slots := #[] } → as.length = items.size → EnG items S h' as →
      acc.toList = as.map Value.ref → R (.ok (.ret res)) { s with heap := h', toks := tk }) :
    ∀ (k i : Nat) (h : Heap) (tk c : Nat) (acc : Array Value) (as : List Addr), items.size - i = k → i ≤ items.size → EnSt h e it l S items i → (∀ b o, b ≠ S → b ≠ e → b ≠ it → h₁.get? b = some o → h.get? b = some o) →
      h.get? S = some { cls := .type "list", dict := none, data := .seq acc c, slots := #[] } → acc.toList = as.map Value.ref → as.length = i → EnG items S h as →
      codeAny (model prog w) A (.builtin "list.extend.loop" ⟨[.ref S, .ref e, res], []⟩) R { s with heap := h, toks := tk } := by
  intro k
  induction k with
  | zero =>
    intro i h tk c acc as hk hi hst hkeep hS hacc hal hG
    refine codeAny_builtin PySem.F.entry_extend_loop ?_
    rw [Around.under_plainId PySem.F.plain_extend_loop _]
    show wpAny _ A.in1 (pyNext (.ref e) >>= _) _ _ _
    refine wpAny_bind (en_done (s := { s with heap := h, toks := tk }) (A := A.in1) hh hst (Array.getElem?_eq_none (by omega)) fun h' he => ?_)
    refine wpAny_pure (hR h' tk acc c as (fun b o h1 h2 h3 q => he b o h3 (hkeep b o h1 h2 h3 q)) (he S _ (Nat.ne_of_gt hiS) hS) (by omega) ?_ hacc)
    exact hG.keep fun b o hb q => he b o (Nat.ne_of_gt (Nat.lt_trans hiS hb)) q
  | succ k ih =>
    intro i h tk c acc as hk hi hst hkeep hS hacc hal hG
    have hlt : i < items.size := by omega
    have hsz : acc.size = i := by rw [← Array.length_toList, hacc, List.length_map, hal]
    have hSl : S < h.objs.size := Heap.lt_size hS
    refine codeAny_builtin PySem.F.entry_extend_loop ?_
    rw [Around.under_plainId PySem.F.plain_extend_loop _]
    show wpAny _ A.in1 (pyNext (.ref e) >>= _) _ _ _
    refine wpAny_bind (en_item (s := { s with heap := h, toks := tk }) (S := S) hst hei hle hli hSl (Array.getElem?_eq_getElem hlt) fun h' hst' ht hkp => ?_)
    dsimp only at ht hkp ⊢
    have hS' := hkp S _ (Nat.ne_of_gt heS) (Nat.ne_of_gt hiS) hS
    have upS : ∀ b o, b ≠ S → h'.get? b = some o → (h'.update S (Obj.mapSeq (·.push (Value.ref h.objs.size)))).get? b = some o := fun b o hb q => (Heap.get?_update_other _ _ (Ne.symm hb)).trans q
    show wpAny _ A.in1 (updateSeq S (·.push (Value.ref h.objs.size)) >>= _) _ _ _
    refine wpAny_bind ?_
    refine wpAny_updateSeq hS' rfl (wpAny_pure ⟨plainId_quiet PySem.F.plain_extend_loop _, ?_⟩) (by rw [hsz]; omega) (by show (acc.push (Value.ref h.objs.size)).size ≤ sizeLine + 1; rw [Array.size_push, hsz]; omega)
    refine ih (i + 1) _ (tk + 1) _ (acc.push (Value.ref h.objs.size)) (as ++ [h.objs.size]) (by omega) hlt (hst'.keep (Nat.ne_of_lt heS) (Nat.ne_of_lt hiS) (Nat.ne_of_lt hlS) upS)
      (fun b o h1 h2 h3 q => upS b o h1 (hkp b o h2 h3 (hkeep b o h1 h2 h3 q))) (Heap.get?_update_self _ hS' rfl) (by rw [Array.toList_push, hacc, List.map_append]; rfl) (by rw [List.length_append, hal]; rfl) ?_
    refine hG.snoc (v := items[i]) (t := tk) rfl hSl (fun b o hb q => upS b o (Nat.ne_of_gt hb) (hkp b o (Nat.ne_of_gt (Nat.lt_trans heS hb)) (Nat.ne_of_gt (Nat.lt_trans hiS hb)) q)) ?_ (upS _ _ (Nat.ne_of_gt hSl) ?_)
    · rw [hal]
      exact Array.getElem?_eq_getElem hlt
    · rw [hal]
      exact ht
theorem en_call {prog : Program} {w : World} {A : Around} {E : Value → Shared → Prop} {s : Shared} {e it l : Addr} {items : Array Value} {Q : Value → Shared → Prop} (hh : A.handled = none) (hei : e ≠ it) (hle : l ≠ e) (hli : l ≠ it) (hn : items.size ≤ sizeLine)
    (he : IsEnum s.heap e it 0 .none) (hit : s.heap.IsListIter it l 0) (hl : s.heap.IsList l items)
    (hQ : ∀ h' tk acc c as, (∀ b o, b ≠ e → b ≠ it → s.heap.get? b = some o → h'.get? b = some o) → h'.get? s.heap.objs.size = some { cls := .type "list", dict := none, data := .seq acc c, slots := #[] } → as.length = items.size → EnG items s.heap.objs.size h' as →
      acc.toList = as.map Value.ref → Q (.ref s.heap.objs.size) { s with heap := h', toks := tk }) :
    wpAny (model prog w) A (call (.type "list") [.ref e]) Q E s := by
  refine callType_codes (Q₁ := fun obj s₁ => obj = .ref s.heap.objs.size ∧ s₁ = { s with heap := s.heap.push { cls := .type "list", data := .seq #[] } }) PySem.F.called_list (PySem.F.typeCall_list_1 _) PySem.F.entry_list_init
    (code_list_new _ ⟨rfl, rfl⟩) fun obj s₁ h₁ => ?_
  obtain ⟨rfl, rfl⟩ := h₁
  have eS : e < s.heap.objs.size := Heap.lt_size he
  have iS : it < s.heap.objs.size := let ⟨_, x, _⟩ := hit; Heap.lt_size x
  have lS : l < s.heap.objs.size := let ⟨_, x, _⟩ := hl; Heap.lt_size x
  have hS : (s.heap.push { cls := .type "list", data := .seq #[] }).get? s.heap.objs.size = some { cls := .type "list", data := .seq #[] } := Heap.get?_push_size _ rfl
  have up : ∀ (h : Heap) (f : Obj → Obj), (∀ b o, s.heap.get? b = some o → h.get? b = some o) → ∀ b o, s.heap.get? b = some o → (h.update s.heap.objs.size f).get? b = some o := fun h f q b o x =>
    (Heap.get?_update_other _ _ (Nat.ne_of_gt (Heap.lt_size x))).trans (q b o x)
  have k1 : ∀ b o, s.heap.get? b = some o → (s.heap.push { cls := .type "list", data := .seq #[] }).get? b = some o := fun b o x => Heap.get?_push_of_some _ x
  have k2 := up _ (Obj.mapSeq (fun _ => (#[] : Array Value))) k1
  have hS2 := Heap.get?_update_self (Obj.mapSeq (fun _ => (#[] : Array Value))) hS rfl
  refine ⟨⟨_, hS, rfl⟩, PySem.F.args_list_init_2 _ _, ?_⟩
  show wpAny _ _ (do let old ← Builtin.List.listItems (.ref s.heap.objs.size); Builtin.List.listUpdate (.ref s.heap.objs.size) (fun _ => #[]); letGo old.toList.reverse; Builtin.List.listExtendWith (.ref s.heap.objs.size) (.ref e) .none) _ _ _
  refine wpAny_bind ?_
  unfold Builtin.List.listItems
  refine wpAny_bind (wpAny_seqItems hS rfl (wpAny_pure ?_))
  show wpAny _ _ (updateSeq s.heap.objs.size (fun _ => #[]) >>= fun _ => letGo (#[] : Array Value).toList.reverse >>= fun _ => Builtin.List.listExtendWith (.ref s.heap.objs.size) (.ref e) .none) _ _ _
  refine wpAny_bind (wpAny_updateSeq hS rfl ?_)
  refine wpAny_bind (wpAny_letGo ?_)
  unfold Builtin.List.listExtendWith
  have ty : ∀ {h : Heap} {t : Nat}, (∀ b o, s.heap.get? b = some o → h.get? b = some o) → ({ s with heap := h, toks := t } : Shared).TypeIs (.ref e) "enumerate" := fun q => ⟨_, q _ _ he, rfl⟩
  refine wpAny_bind (wpAny_typeOf (ty k2) ?_)
  have h1 : Builtin.List.listSameRef (.ref s.heap.objs.size) (.ref e) = false := by simp [Builtin.List.listSameRef, Nat.ne_of_gt eS]
  have h2 : (Value.type "enumerate" == Value.type "list") = false := by decide
  have h3 : (Value.type "enumerate" == Value.type "tuple") = false := by decide
  simp only [h1, h2, h3, Bool.or_false, Bool.false_eq_true, if_false]
  refine wpAny_bind (wpAny_pyIter_enum (k2 _ _ he) ?_)
  refine wpAny_bind (wpAny_holding ?_)
  unfold Builtin.List.listLengthHint
  refine wpAny_bind (wpAny_specialOf (ty k2) enum_len0 ?_)
  show wpAny _ _ (specialOf (Value.ref e) (Str.ofString "__length_hint__") >>= _) _ _ _
  refine wpAny_bind (wpAny_specialOf (ty k2) enum_hint0 ?_)
  refine wpAny_pure ?_
  show wpAny _ _ (rule "list.extend.makes-room" >>= fun _ => Builtin.List.listTouch (.ref s.heap.objs.size) >>= fun _ =>
    again (.builtin "list.extend.loop" ⟨[.ref s.heap.objs.size, .ref e, .none], []⟩)) _ _ _
  refine wpAny_bind (wpAny_rule ?_)
  refine wpAny_bind ?_
  show wpAny _ _ (updateSeq s.heap.objs.size (·.push .none) >>= fun _ => updateSeq s.heap.objs.size (·.pop)) _ _ _
  refine wpAny_bind (wpAny_updateSeq hS2 rfl ?_)
  have hS3 := Heap.get?_update_self (Obj.mapSeq (·.push Value.none)) hS2 rfl
  refine wpAny_updateSeq (hz := by seq_fits) hS3 rfl ?_
  have hS4 := Heap.get?_update_self (Obj.mapSeq (·.pop)) hS3 rfl
  have k4 := up _ (Obj.mapSeq (·.pop)) (up _ (Obj.mapSeq (·.push Value.none)) k2)
  refine wpAny_pure ⟨plainId_quiet F.plain_extend_loop _, ?_⟩
  refine en_loop (prog := prog) (w := w) (A := A.in1) (s := s) (h₁ := s.heap) (S := s.heap.objs.size) (items := items) hh hei hle hli eS iS lS hn .none (fun h' tk acc c as hk' hS' hl' hG hacc => ?_)
    items.size 0 _ _ _ #[] [] (Nat.sub_zero _) (Nat.zero_le _) ⟨hit.at fun o x => k4 _ o x, hl.at fun o x => k4 _ o x, .inl ⟨_, k4 _ _ he⟩⟩ (fun b o _ _ _ x => k4 b o x) hS4 rfl rfl
    ⟨List.Pairwise.nil, (fun _ ha => nomatch ha), (fun j a hj => by simp at hj)⟩
  exact ⟨rfl, hQ h' tk acc c as (fun b o n1 n2 x => hk' b o (Nat.ne_of_lt (Heap.lt_size x)) n1 n2 x) hS' hl' hG hacc⟩
end
end MsE

namespace MsE
open PySem PySem.Spec PyProof.Rows L2
/-- tuples at new addresses -/
def putP : Hp → List Addr → List (List V) → Hp
  | H, a :: as, p :: r => putP (upd H a (.tup p)) as r
  | H, _, _ => H
theorem putP_off {b : Addr} : ∀ (as : List Addr) (ps : List (List V)) (H : Hp), b ∉ as → putP H as ps b = H b
  | [], _, _, _ => rfl
  | _ :: _, [], _, _ => rfl
  | a :: as, p :: r, H, h => (putP_off as r _ fun z => h (List.mem_cons_of_mem _ z)).trans (upd_ne fun z => h (by rw [z]; exact List.mem_cons_self))
theorem putP_at : ∀ (as : List Addr) (ps : List (List V)) (H : Hp), as.Nodup → ∀ (j : Nat) (a : Addr) (p : List V), as[j]? = some a → ps[j]? = some p → putP H as ps a = some (.tup p)
  | [], _, _, _, j, a, p, h, _ => by simp at h
  | _ :: _, [], _, _, j, a, p, _, h => by simp at h
  | a :: as, p :: r, H, hn, 0, a', p', h, h' => by
    have hn' := List.nodup_cons.mp hn
    cases h
    cases h'
    exact (putP_off as r _ hn'.1).trans upd_same
  | a :: as, p :: r, H, hn, j + 1, a', p', h, h' => putP_at as r _ (List.nodup_cons.mp hn).2 j a' p' h h'
theorem refs_vals : ∀ as : List Addr, Vals (as.map V.ref) (as.map Value.ref)
  | [] => .nil
  | _ :: as => .cons rfl (refs_vals as)
def rEnumL (K : PySem.W.Frag) : V → Hp → VK → Prop := fun x H Q => ∃ (a : Addr) (xs : List V), x = .ref a ∧ SqL K H a xs ∧
  ∀ (H' : Hp) (p : Addr) (ts : List Addr), Same H H' → H p = none → H' p = some (.lst (ts.map V.ref)) → ts.length = xs.length →
    (∀ (j : Nat) (x : V) (t : Addr), xs[j]? = some x → ts[j]? = some t → H' t = some (.tup [.int (j : Int), x])) → Q (.ref p) H'
def tListEnum (K : PySem.W.Frag) (te : TE) : TE := fun σ H Q => te σ H fun x H1 => rEnumL K x H1 Q
section
variable {X : Cx} {e : Expr} {te : TE} {p q' cpos pos : Pos}
theorem enum_laid {pins : List (Addr × Obj)} {σ : L2.St} {H : Hp} {s : Shared} {h' : Heap} {tk S : Nat} {xs : List V} {its : List Value} {acc : Array Value} {c : Nat} {as : List Addr} (I : Inv X pins σ H s) (hz : xs.length ≤ sizeLine) (rv : Vals xs its)
    (hSz : s.heap.objs.size ≤ S) (hk : ∀ b o, s.heap.get? b = some o → h'.get? b = some o) (hS : h'.get? S = some { cls := .type "list", dict := none, data := .seq acc c, slots := #[] }) (hl : as.length = its.length) (hG : EnG its.toArray S h' as) (hacc : acc.toList = as.map Value.ref) :
    ∃ H' : Hp, Same H H' ∧ H S = none ∧ H' S = some (.lst (as.map V.ref)) ∧ (∀ (j : Nat) (x : V) (t : Addr), xs[j]? = some x → as[j]? = some t → H' t = some (.tup [.int (j : Int), x])) ∧ Inv X pins σ H' { s with heap := h', toks := tk } := by
  have lk : xs.length = its.length := rv.length
  have nd : as.Nodup := List.Pairwise.imp (fun {a b} (h : a < b) => Nat.ne_of_lt h) hG.up
  have newS : H S = none := I.hok.fresh hSz
  have new : ∀ t ∈ as, H t = none := fun t ht => I.hok.fresh (Nat.le_of_lt (Nat.lt_of_le_of_lt hSz (hG.hi t ht)))
  have hSn : S ∉ as := fun z => Nat.lt_irrefl _ (hG.hi _ z)
  let ps : List (List V) := xs.mapIdx fun j x => [.int (j : Int), x]
  have eps : ∀ (j : Nat) (x : V), xs[j]? = some x → ps[j]? = some [.int (j : Int), x] := fun j x hx => by
    show (xs.mapIdx fun j x => [V.int (j : Int), x])[j]? = _
    rw [List.getElem?_mapIdx, hx]
    rfl
  let H' := putP (upd H S (.lst (as.map V.ref))) as ps
  have off : ∀ b, b ∉ as → b ≠ S → H' b = H b := fun b h1 h2 => (putP_off as ps _ h1).trans (upd_ne h2)
  have atP : ∀ (j : Nat) (x : V) (t : Addr), xs[j]? = some x → as[j]? = some t → H' t = some (.tup [.int (j : Int), x]) := fun j x t hx ht => putP_at as ps _ nd j t _ ht (eps j x hx)
  have eS : H' S = some (.lst (as.map V.ref)) := (putP_off as ps _ hSn).trans upd_same
  have kp : Same H H' := fun b u e => by
    rw [off b (fun z => by rw [new b z] at e; cases e) (fun z => by rw [z, newS] at e; cases e)]
    exact e
  have lowb : ∀ b o, s.heap.get? b = some o → b ∉ as ∧ b ≠ S := fun b o e =>
    ⟨fun z => absurd (Heap.lt_size e) (Nat.not_lt.mpr (Nat.le_of_lt (Nat.lt_of_le_of_lt hSz (hG.hi b z)))), Nat.ne_of_lt (Nat.lt_of_lt_of_le (Heap.lt_size e) hSz)⟩
  refine ⟨H', kp, newS, eS, atP, ?_⟩
  refine I.call' (ch := []) rfl ⟨fun b o q _ _ _ => hk b o q, fun b o q _ _ _ => ⟨o.slots, hk b o q⟩, fun b o q n _ => ?_, fun b o q _ => ⟨o, hk b o q⟩, fun b xs q => kp b _ q, fun b o u q => kp b _ q, fun b ps q => ⟨#[], by rw [kp b _ q]; simp⟩⟩ (fun b u q => ?_) I.bare fun b z => by simp at z
  · obtain ⟨z1, z2⟩ := lowb b o q
    rw [off b z1 z2]
    exact n
  · by_cases hb : b ∈ as
    · obtain ⟨j, hj⟩ := List.mem_iff_getElem?.mp hb
      have hjl : j < as.length := (List.getElem?_eq_some_iff.mp hj).1
      have hjx : j < xs.length := by omega
      have ex := List.getElem?_eq_getElem hjx
      rw [atP j _ b ex hj] at q
      cases q
      obtain ⟨v, t, e1, e2⟩ := hG.at' j b hj
      obtain ⟨u, f1, f2⟩ := rv.get ex
      have e1' : its[j]? = some v := by rw [← e1]; simp
      rw [f1] at e1'
      cases e1'
      exact ⟨by show 2 ≤ sizeLine; decide, [.int (j : Int) t, v], .cons ⟨t, rfl⟩ (.cons f2 .nil), ⟨_, e2, rfl, _, rfl⟩⟩
    · by_cases hb2 : b = S
      · rw [hb2] at q ⊢
        rw [eS] at q
        cases q
        refine ⟨by rw [List.length_map]; omega, acc.toList, c, by rw [hacc]; exact refs_vals as, ?_⟩
        rw [Array.toArray_toList]
        exact hS
      · rw [off b hb hb2] at q
        exact (I.hok b u q).stay (fun d v _ y => hk d v y) (fun d y => kp d _ y) fun d xs y => kp d _ y
/-- list(enumerate(e)) -/
theorem pe_listEnum (hc : X.calm = true) (he : PE X e te) (hg : Gl X "list") (hm : X.mg "list" = none) (hv : bootBuiltins "list" = some (.type "list")) (hg2 : Gl X "enumerate") (hm2 : X.mg "enumerate" = none)
    (hs : starEach [.Call (.Name "enumerate" q') [e] [] cpos] X.env = (false, eval (.Call (.Name "enumerate" q') [e] [] cpos) X.env) :: starEach [] X.env := by rfl) (hs2 : starEach [e] X.env = [(false, eval e X.env)] := by rfl) :
    PE X (.Call (.Name "list" p) [.Call (.Name "enumerate" q') [e] [] cpos] [] pos) (tListEnum X.K te) := by
  refine ⟨fun pins s σ H Q I hq => ?_⟩
  refine Call_ (ld_blt I hg hm hv ?_)
  refine PyProof.Rows.callWith_type1 ?_ hs rfl
  rw [hs]
  show wpAny _ _ (spliced ((false, eval (.Call (.Name "enumerate" q') [e] [] cpos) X.env) :: backTo pos (starEach [] X.env))) _ _ s
  refine Calls.spliced_cons ?_
  refine Call_ (ld_blt I hg2 hm2 boot_enumerate (PyProof.Rows.callWith_type1 ?_ hs2 rfl))
  rw [hs2]
  show wpAny _ _ (spliced ((false, eval e X.env) :: backTo cpos [])) _ _ s
  refine Calls.spliced_cons (thn (he.run pins s σ H _ I hq) fun u s1 ⟨x, H1, I1, rx, a, xs, ex, hd, q⟩ => ?_)
  subst ex
  obtain rfl : u = Value.ref a := rx
  refine Calls.spliced_nil ?_
  obtain ⟨its, rv, pl, hz⟩ := I1.list hd
  have aS : a < s1.heap.objs.size := let ⟨_, y, _⟩ := pl.isList; Heap.lt_size y
  refine call_enumerate_list pl.isList fun h' hen hit hsz hk => ?_
  refine Calls.spliced_nil ?_
  refine en_call (s := { s1 with heap := h' }) (items := its.toArray) (l := a) (I1.ok.hd hc) (Nat.succ_ne_self _) (Nat.ne_of_lt (Nat.lt_succ_of_lt aS)) (Nat.ne_of_lt aS) (by rw [List.size_toArray, ← rv.length]; exact hz) hen hit (pl.isList.at fun o y => hk _ o y) fun h2 tk acc c as hk2 hS hl hG hacc => ?_
  have sz : s1.heap.objs.size ≤ h'.objs.size := by rw [hsz]; exact Nat.le_add_right _ _
  have kk : ∀ b o, s1.heap.get? b = some o → h2.get? b = some o := fun b o y => hk2 b o (Nat.ne_of_lt (Nat.lt_succ_of_lt (Heap.lt_size y))) (Nat.ne_of_lt (Heap.lt_size y)) (hk b o y)
  obtain ⟨H', k1, k2, k3, k4, J⟩ := enum_laid (tk := tk) I1 hz rv sz kk hS (by rw [hl, List.size_toArray]) hG hacc
  exact ⟨.ref _, H', J, rfl, q H' _ as k1 k2 k3 (by rw [hl, List.size_toArray, rv.length]) k4⟩
end
end MsE

namespace Ms
open PySem PySem.Spec PyProof.Rows L2
/-! ### built-in names stand as they were -/
structure Bl (mg : Str → Option Value) : Prop where
  len : mg "len" = none
  range : mg "range" = none
  isinstance : mg "isinstance" = none
  int : mg "int" = none
  bool : mg "bool" = none
  list : mg "list" = none
  enumerate : mg "enumerate" = none
  sum : mg "sum" = none
  min : mg "min" = none
  max : mg "max" = none
  sorted : mg "sorted" = none
  dict : mg "dict" = none
  zip : mg "zip" = none
/-! ### defs that let nothing out -/
/-- the def x stands in the written part as its statement says -/
structure Def (K : PySem.W.Frag) (mg : Str → Option Value) (x : Str) (st : Stmt) (ps : List Str) : Prop where
  ex : ∃ f fd, Fun K x x st f fd ∧ mg x = some (.ref f) ∧ Binds K fd ps []
/-- the def x keeps the promise sp, to the level k -/
structure Use (P : Program) (w : World) (K : PySem.W.Frag) (mg : Str → Option Value) (base : Heap) (k : Nat) (x : Str) (ps : List Str) (sp : Sp) : Prop where
  ex : ∃ f fd, FnOk P w K mg base CX0 k f fd ps sp ∧ mg x = some (.ref f) ∧ PySem.W.keepIn K (.ref f) = true ∧ Binds K fd ps []
section
variable {P : Program} {w : World} {K : PySem.W.Frag} {mg : Str → Option Value} {base : Heap}
theorem Def.ok {x : Str} {st : Stmt} {N ps : List Str} {k : Nat} {sp : Sp} (D : Def K mg x st ps) (S : FnScope N ps (defScope st)) (len : ∀ vs H Q E, sp vs H Q E → vs.length = ps.length)
    (hbody : ∀ (f : Addr) (cdv : Value) (A : Around) (outer : List Env) (s : Shared) (H : Hp) (vs : List V) (Q : VK) (E : XK), Room k (A.deeper (envOfC x (defScope st) s.heap.objs.size f cdv)) → sp vs H Q E →
      ∃ t, PSs (cxOf CX0 P w K mg base N x (defScope st) f cdv A outer s H E).nox (defBody st) t ∧ t { nx := fun _ H' => Q .non H', rt := Q } (start N vs) H) : Use P w K mg base (k + 1) x ps sp := by
  obtain ⟨f, fd, F, g, b⟩ := D.ex
  exact ⟨f, fd, F.ok S len (fun cdv A outer s H vs Q E hr h => hbody f cdv A outer s H vs Q E hr h), g, F.kp, b⟩
theorem Use.imp {x : Str} {ps : List Str} {k : Nat} {sp sp' : Sp} (U : Use P w K mg base k x ps sp) (h : ∀ vs H Q E, sp' vs H Q E → sp vs H Q E) : Use P w K mg base k x ps sp' := by
  obtain ⟨f, fd, F, g, kp, b⟩ := U.ex
  exact ⟨f, fd, F.imp h, g, kp, b⟩
theorem Use.mono {x : Str} {ps : List Str} {j k : Nat} {sp : Sp} (U : Use P w K mg base j x ps sp) (h : j ≤ k) : Use P w K mg base k x ps sp := by
  obtain ⟨f, fd, F, g, kp, b⟩ := U.ex
  exact ⟨f, fd, F.mono h, g, kp, b⟩
end
section
variable {X : Cx} {k j : Nat} {ps : List Str} {sp : Sp} {x : Str} {e : Expr} {es : List Expr} {t : TA} {p pos : Pos}
theorem pcall (U : Use X.prog X.w X.K X.mg X.base j x ps sp) (hr : Room k X.A) (ha : PA X (e :: es) t) (hj : j ≤ k := by omega) (hg : Gl X x := by rfl) (hdb : (x == ("__debug__" : Str)) = false := by decide)
    (he : starEach (e :: es) X.env = (false, eval e X.env) :: starEach es X.env := by rfl) (hpl : (backTo pos (starEach es X.env)).any (·.1) = false := by rfl) :
    PE X (.Call (.Name x p) (e :: es) [] pos) (tCall sp [] E0 t) := by
  obtain ⟨f, fd, F, g, kp, b⟩ := U.ex
  exact pe_call F (hr.mono hj) hg g kp b .nil pass0 ha hdb he hpl
/-! ### numbers from 0 on -/
def rNN (C : Nat → Nat → Prop) (f : Nat → Nat → Nat) : R2 := fun x y H Q => ∃ n m : Nat, x = .int (n : Int) ∧ y = .int (m : Int) ∧ C n m ∧ Q (.int ((f n m : Nat) : Int)) H
theorem op_nn {f : Value → Value → Sem Value} {C : Int → Int → Prop} {g : Int → Int → Int} {D : Nat → Nat → Prop} {h : Nat → Nat → Nat} (o : OpR X f (rI C fun i j => .int (g i j)))
    (hc : ∀ n m, D n m → C (n : Int) (m : Int)) (he : ∀ n m, D n m → g (n : Int) (m : Int) = ((h n m : Nat) : Int)) : OpR X f (rNN D h) := by
  intro pins s σ H x y v u Q I rx ry q
  obtain ⟨n, m, e1, e2, d, q⟩ := q
  refine o pins s σ H x y v u Q I rx ry ⟨n, m, e1, e2, hc n m d, ?_⟩
  show Q (V.int (g (n : Int) (m : Int))) H
  rw [he n m d]
  exact q
theorem op_nn0 {f : Value → Value → Sem Value} {g : Int → Int → Int} {D : Nat → Nat → Prop} {h : Nat → Nat → Nat} (o : OpR X f (rI0 fun i j => .int (g i j)))
    (he : ∀ n m, D n m → g (n : Int) (m : Int) = ((h n m : Nat) : Int)) : OpR X f (rNN D h) := by
  intro pins s σ H x y v u Q I rx ry q
  obtain ⟨n, m, e1, e2, d, q⟩ := q
  refine o pins s σ H x y v u Q I rx ry ⟨n, m, e1, e2, ?_⟩
  show Q (V.int (g (n : Int) (m : Int))) H
  rw [he n m d]
  exact q
/-- a factor within 64 bits -/
def Mul64 (n m : Nat) : Prop := n ≤ 1000000000000000000 ∨ m ≤ 1000000000000000000
def Div30 (_ m : Nat) : Prop := 1 ≤ m ∧ m < 1073741824
theorem mul64 {n m : Nat} (h : Mul64 n m) : CMul (n : Int) (m : Int) := by
  rcases h with h | h
  · exact .inl ⟨by omega, by omega⟩
  · exact .inr ⟨by omega, by omega⟩
theorem div30 {n m : Nat} (h : Div30 n m) : CDiv (n : Int) (m : Int) := ⟨by have := h.1; omega, by have := h.2; omega⟩
theorem nAdd : OpR X (binaryOp .Add) (rNN (fun _ _ => True) fun n m => n + m) := op_nn0 op_add fun n m _ => by omega
theorem nSub : OpR X (binaryOp .Sub) (rNN (fun n m => m ≤ n) fun n m => n - m) := op_nn0 op_sub fun n m h => by omega
theorem nMul : OpR X (binaryOp .Mult) (rNN Mul64 fun n m => n * m) := op_nn op_mul (fun _ _ h => mul64 h) fun n m _ => (Int.natCast_mul n m).symm
theorem nDiv : OpR X (binaryOp .FloorDiv) (rNN Div30 fun n m => n / m) := op_nn op_fdiv (fun _ _ h => div30 h) fun n m _ => (Int.natCast_ediv n m).symm
theorem nMod : OpR X (binaryOp .Mod) (rNN (fun _ m => 1 ≤ m) fun n m => n % m) := op_nn op_mod (fun _ _ h => by omega) fun n m _ => (Int.natCast_emod n m).symm
theorem iAdd : PIp X .Add (rNN (fun _ _ => True) fun n m => n + m) := op_nn0 (X := X) iop_add fun n m _ => by omega
theorem iSub : PIp X .Sub (rNN (fun n m => m ≤ n) fun n m => n - m) := op_nn0 (X := X) iop_sub fun n m h => by omega
theorem iMul : PIp X .Mult (rNN Mul64 fun n m => n * m) := op_nn (X := X) iop_mul (fun _ _ h => mul64 h) fun n m _ => (Int.natCast_mul n m).symm
theorem iDiv : PIp X .FloorDiv (rNN Div30 fun n m => n / m) := op_nn (X := X) iop_fdiv (fun _ _ h => div30 h) fun n m _ => (Int.natCast_ediv n m).symm
end
/-! ### lists of numbers -/
def vN (l : List Nat) : List V := l.map fun n : Nat => V.int (n : Int)
theorem vN_len (l : List Nat) : (vN l).length = l.length := List.length_map _
theorem vN_app (l r : List Nat) : vN (l ++ r) = vN l ++ vN r := List.map_append
theorem vN_rev (l : List Nat) : vN l.reverse = (vN l).reverse := List.map_reverse
theorem vN_take (l : List Nat) (i : Nat) : vN (l.take i) = (vN l).take i := List.map_take
theorem vN_drop (l : List Nat) (i : Nat) : vN (l.drop i) = (vN l).drop i := List.map_drop
theorem vN_get {l : List Nat} {i n : Nat} (h : l[i]? = some n) : (vN l)[i]? = some (.int (n : Int)) := by
  unfold vN
  rw [List.getElem?_map, h]
  rfl
theorem vN_of {l : List Nat} {i : Nat} {x : V} (h : (vN l)[i]? = some x) : ∃ n, l[i]? = some n ∧ x = .int (n : Int) := by
  unfold vN at h
  rw [List.getElem?_map] at h
  cases e : l[i]? with
  | none =>
    rw [e] at h
    cases h
  | some n =>
    rw [e] at h
    exact ⟨n, rfl, (Option.some.inj h).symm⟩
theorem vN_int (l : List Nat) : vN l = (l.map fun n : Nat => (n : Int)).map V.int := by
  unfold vN
  rw [List.map_map]
  rfl
/-- xs[:k], xs[k:] -/
theorem cut_to (xs : List V) (k : Nat) : cutV xs none (some (k : Int)) = xs.take k := by
  unfold cutV
  rw [HT.sIx_none, HT.sIx_nat, Nat.sub_zero, List.drop_zero]
  by_cases h : k ≤ xs.length
  · rw [Nat.min_eq_left h]
  · rw [Nat.min_eq_right (by omega), List.take_of_length_le (Nat.le_refl _), List.take_of_length_le (by omega)]
theorem cut_from (xs : List V) (k : Nat) : cutV xs (some (k : Int)) none = xs.drop k := by
  unfold cutV
  rw [HT.sIx_none, HT.sIx_nat]
  by_cases h : k ≤ xs.length
  · rw [Nat.min_eq_left h, List.take_of_length_le]
    rw [List.length_drop]
    exact Nat.le_refl _
  · rw [Nat.min_eq_right (by omega), Nat.sub_self, List.take_zero, List.drop_of_length_le (by omega)]
theorem same_upd {H : Hp} {p : Addr} {o : HO} (h : H p = none) : Same H (upd H p o) := fun b x e => by
  rw [upd_ne (ne_of_none e h)]
  exact e
/-- what came later than H may change -/
theorem same_mut {H H' : Hp} {p : Addr} {o : HO} (s : Same H H') (h : H p = none) : Same H (upd H' p o) := fun b x e => by
  rw [upd_ne (ne_of_none e h)]
  exact s b x e
theorem szl {n : Nat} (h : n ≤ 16000000) : n ≤ sizeLine := Nat.le_trans h (by decide)
theorem szt {n : Nat} (h : n ≤ 16000000) : n < sizeLine := Nat.lt_of_le_of_lt h (by decide)
/-- a comprehension without a test -/
theorem yes {σ : L2.St} {H : Hp} {A B : Hp → Prop} (h : A H) : tYes σ H fun b H1 => if b = true then A H1 else B H1 := by
  show if true = true then A H else B H
  exact iteT h
theorem castN (lo i : Nat) : V.int ((lo : Int) + (i : Int)) = V.int ((lo + i : Nat) : Int) := by rw [Int.natCast_add]
/-- for over a range of numbers from 0 on -/
def forN {lo n m : Nat} {g : TG} {tb : TS} {D : Ends} {σ : L2.St} {H : Hp} (hm : n = m) (Pv : Nat → L2.St → Hp → Prop) (h0 : Pv 0 σ H)
    (hs : ∀ i σ H, i < m → Pv i σ H → g (.int ((lo + i : Nat) : Int)) σ H fun σ2 H2 => tb { D with nx := Pv (i + 1), ct := Pv (i + 1), bk := D.nx } σ2 H2) (hd : ∀ σ H, Pv m σ H → D.nx σ H) :=
  for_range (lo := (lo : Int)) (n := n) (g := g) (tb := tb) (D := D) Pv h0 (fun i σ H hi hp => by rw [castN]; exact hs i σ H (by omega) hp) (fun σ H hp => hd σ H (hm ▸ hp))
def lcN {lo n m : Nat} {g : TG} {tt : TT} {te : TE} {vs : List Nat} {σ : L2.St} {H1 : Hp} {D : Addr} {Qd : Hp → Prop} (hm : n = m) (Pv : Nat → Hp → Prop) (h0 : Pv 0 (upd H1 D (.lst [])))
    (hs : ∀ i H, i < m → Pv i H → g (.int ((lo + i : Nat) : Int)) (wipe σ vs) H fun σ2 H2 => wipe σ2 vs = wipe σ vs ∧ tt σ2 H2 fun b H3 =>
      if b = true then te σ2 H3 fun y H4 => ∃ acc, H4 D = some (.lst acc) ∧ acc.length < sizeLine ∧ Pv (i + 1) (upd H4 D (.lst (acc ++ [y]))) else Pv (i + 1) H3) (hd : ∀ H, Pv m H → Qd H) :=
  lc_range (lo := (lo : Int)) (n := n) (g := g) (tt := tt) (te := te) (vs := vs) (σ := σ) Pv h0 (fun i H hi hp => by rw [castN]; exact hs i H (by omega) hp) (fun H hp => hd H (hm ▸ hp))
/-- a while whose test and body are read from an invariant with its measure -/
theorem wh {c : TT} {tb : TS} {D : Ends} {σ : L2.St} {H : Hp} (W : Nat → L2.St → Hp → Prop) (m : Nat) (h0 : W m σ H)
    (hs : ∀ m σ H, W m σ H → c σ H fun b H1 => if b = true then ∃ N : L2.St → Hp → Prop, (∀ σ' H', N σ' H' → ∃ m', m' < m ∧ W m' σ' H') ∧ tb { D with nx := N, ct := N, bk := D.nx } σ H1 else D.nx σ H1) : tWhile c tb D σ H := ⟨W, ⟨m, h0⟩, hs⟩
end Ms

namespace Ms
open PySem PySem.Spec PyProof.Rows L2
/-! ### lists of ints compared -/
def dI (l : List Int) : PyData := .list (l.map PyData.int)
theorem dpAll_int {K : PySem.W.Frag} {H : Hp} : ∀ l : List Int, DpAll K H (l.map V.int) (l.map PyData.int)
  | [] => .nil
  | i :: r => .cons (.int i) (dpAll_int r)
theorem dp_int {K : PySem.W.Frag} {H : Hp} {a : Addr} {l : List Int} (h : SqL K H a (l.map V.int)) : Dp K H (.ref a) (dI l) := .lst h (dpAll_int l)
theorem sh_int (l : List Int) : SeqAt.shaped (dI l) = true := by
  unfold dI
  simp [SeqAt.shaped, PyData.canLay0, PyData.depth, PySem.W.ke_canLayAll0, PySem.W.ke_depthAll]
theorem eqv_int (l r : List Int) : PyData.eqv (dI l) (dI r) = decide (l = r) := by
  unfold dI
  rw [PyData.eqv, PySem.W.ked_eqvAll]
/-- the ints of a list of numbers -/
def iN (l : List Nat) : List Int := l.map fun n : Nat => (n : Int)
theorem iN_inj {l r : List Nat} (h : iN l = iN r) : l = r := by
  induction l generalizing r with
  | nil =>
    cases r with
    | nil => rfl
    | cons a t => cases h
  | cons a l ih =>
    cases r with
    | nil => cases h
    | cons c t =>
      unfold iN at h
      rw [List.map_cons, List.map_cons] at h
      injection h with h1 h2
      rw [ih h2]
      congr 1
      omega
theorem dp_n {K : PySem.W.Frag} {H : Hp} {a : Addr} {l : List Nat} (h : SqL K H a (vN l)) : Dp K H (.ref a) (dI (iN l)) := dp_int (by rw [vN_int] at h; exact h)
theorem eqv_n (l r : List Nat) : PyData.eqv (dI (iN l)) (dI (iN r)) = decide (l = r) := by
  rw [eqv_int]
  by_cases h : l = r
  · rw [h, decide_eq_true rfl, decide_eq_true rfl]
  · rw [decide_eq_false h, decide_eq_false fun e => h (iN_inj e)]
/-- what is one own object's may change, all else stands -/
def But (p : Addr) (H H' : Hp) : Prop := ∀ b o, b ≠ p → H b = some o → H' b = some o
theorem But.refl (p : Addr) (H : Hp) : But p H H := fun _ _ _ h => h
theorem But.trans {p : Addr} {H H1 H2 : Hp} (a : But p H H1) (b : But p H1 H2) : But p H H2 := fun c o n h => b c o n (a c o n h)
theorem But.of {p : Addr} {H H' : Hp} (s : Same H H') : But p H H' := fun b o _ h => s b o h
theorem But.upd {p : Addr} {H : Hp} {o : HO} : But p H (upd H p o) := fun b x n e => by
  rw [upd_ne n]
  exact e
theorem But.same {p : Addr} {H0 H H' : Hp} (s : Same H0 H) (b : But p H H') (h : H0 p = none) : Same H0 H' := fun c o e => b c o (ne_of_none e h) (s c o e)
end Ms

namespace MS
/-! ### figures -/
def digL (b n : Nat) : List Nat := if 2 ≤ b ∧ b ≤ n then n % b :: digL b (n / b) else [n % b]
termination_by n
decreasing_by exact Nat.div_lt_self (by omega) (by omega)
def figs (b n : Nat) : List Nat := (digL b n).reverse
def valB (b : Nat) (l : List Nat) : Nat := l.foldl (fun a f => a * b + f) 0
def nd (b n : Nat) : Nat := (figs b n).length
def isPal (b n : Nat) : Bool := decide (figs b n = (figs b n).reverse)
section
variable {b n : Nat}
theorem figs_lt (h : n < b) : figs b n = [n] := by
  unfold figs
  rw [digL, if_neg (by omega), Nat.mod_eq_of_lt h]
  rfl
theorem figs_ge (hb : 2 ≤ b) (h : b ≤ n) : figs b n = figs b (n / b) ++ [n % b] := by
  unfold figs
  rw [digL, if_pos ⟨hb, h⟩, List.reverse_cons]
theorem valB_snoc (l : List Nat) (d : Nat) : valB b (l ++ [d]) = valB b l * b + d := by
  unfold valB
  rw [List.foldl_append]
  rfl
theorem valB_app (l : List Nat) : ∀ r : List Nat, valB b (l ++ r) = valB b l * b ^ r.length + valB b r := by
  intro r
  induction h : r.length generalizing r with
  | zero =>
    have e : r = [] := List.length_eq_zero_iff.mp h
    subst e
    rw [List.append_nil]
    show valB b l = valB b l * b ^ 0 + 0
    rw [Nat.pow_zero]
    omega
  | succ k ih =>
    have hne : r ≠ [] := by
      intro e
      rw [e] at h
      cases h
    have e := List.dropLast_concat_getLast hne
    have hl : r.dropLast.length = k := by rw [List.length_dropLast, h] <;> rfl
    rw [← e, ← List.append_assoc, valB_snoc, valB_snoc, ih _ hl, Nat.add_mul, Nat.pow_succ, Nat.mul_assoc, Nat.add_assoc]
theorem valB_figs (hb : 2 ≤ b) : ∀ n, valB b (figs b n) = n := by
  intro n
  induction n using Nat.strongRecOn with
  | ind n ih =>
    by_cases h : n < b
    · rw [figs_lt h]
      show 0 * b + n = n
      omega
    · have hlt : n / b < n := Nat.div_lt_self (by omega) (by omega)
      rw [figs_ge hb (by omega), valB_snoc, ih _ hlt, Nat.mul_comm]
      exact Nat.div_add_mod n b
theorem figs_bd (hb : 2 ≤ b) : ∀ n, ∀ d ∈ figs b n, d < b := by
  intro n
  induction n using Nat.strongRecOn with
  | ind n ih =>
    intro d hd
    by_cases h : n < b
    · rw [figs_lt h] at hd
      have e : d = n := by simpa using hd
      omega
    · have hlt : n / b < n := Nat.div_lt_self (by omega) (by omega)
      rw [figs_ge hb (by omega), List.mem_append] at hd
      rcases hd with hd | hd
      · exact ih _ hlt d hd
      · have e : d = n % b := by simpa using hd
        rw [e]
        exact Nat.mod_lt _ (by omega)
theorem nd_lt (h : n < b) : nd b n = 1 := by
  unfold nd
  rw [figs_lt h] <;> rfl
theorem nd_ge (hb : 2 ≤ b) (h : b ≤ n) : nd b n = nd b (n / b) + 1 := by
  unfold nd
  rw [figs_ge hb h, List.length_append] <;> rfl
theorem nd_pos (hb : 2 ≤ b) : 1 ≤ nd b n := by
  by_cases h : n < b
  · rw [nd_lt h]
    exact Nat.le_refl _
  · rw [nd_ge hb (by omega)]
    omega
theorem nd_up (hb : 2 ≤ b) : ∀ n, n < b ^ nd b n := by
  intro n
  induction n using Nat.strongRecOn with
  | ind n ih =>
    by_cases h : n < b
    · rw [nd_lt h, Nat.pow_one]
      exact h
    · have hlt : n / b < n := Nat.div_lt_self (by omega) (by omega)
      rw [nd_ge hb (by omega), Nat.pow_succ]
      exact (Nat.div_lt_iff_lt_mul (by omega)).mp (ih _ hlt)
theorem nd_low (hb : 2 ≤ b) : ∀ n, 1 ≤ n → b ^ (nd b n - 1) ≤ n := by
  intro n
  induction n using Nat.strongRecOn with
  | ind n ih =>
    intro hn
    by_cases h : n < b
    · rw [nd_lt h]
      exact hn
    · have hlt : n / b < n := Nat.div_lt_self (by omega) (by omega)
      have h1 : 1 ≤ n / b := (Nat.le_div_iff_mul_le (by omega)).mpr (by omega)
      have q := ih _ hlt h1
      rw [nd_ge hb (by omega), Nat.add_sub_cancel]
      have p := nd_pos (n := n / b) hb
      have e : nd b (n / b) = (nd b (n / b) - 1) + 1 := by omega
      rw [e, Nat.pow_succ]
      exact (Nat.le_div_iff_mul_le (by omega)).mp q
theorem nd_unique (hb : 2 ≤ b) {s : Nat} (hn : 1 ≤ n) (hs : 1 ≤ s) (h1 : b ^ (s - 1) ≤ n) (h2 : n < b ^ s) : nd b n = s := by
  have u := nd_up hb n
  have l := nd_low hb n hn
  have p := nd_pos (n := n) hb
  have a1 : s - 1 < nd b n := (Nat.pow_lt_pow_iff_right (a := b) (by omega)).mp (Nat.lt_of_le_of_lt h1 u)
  have a2 : nd b n - 1 < s := (Nat.pow_lt_pow_iff_right (a := b) (by omega)).mp (Nat.lt_of_le_of_lt l h2)
  omega
theorem nd_mono (hb : 2 ≤ b) {m : Nat} (hm : 1 ≤ m) (h : m ≤ n) : nd b m ≤ nd b n := by
  have l := nd_low hb m hm
  have u := nd_up hb n
  have a1 : nd b m - 1 < nd b n := (Nat.pow_lt_pow_iff_right (a := b) (by omega)).mp (Nat.lt_of_le_of_lt l (Nat.lt_of_le_of_lt h u))
  omega
/-- a list of figures is the figures of its number -/
theorem figs_valB (hb : 2 ≤ b) : ∀ l : List Nat, (∀ d ∈ l, d < b) → (∀ x r, l = x :: r → 1 ≤ x) → l ≠ [] → figs b (valB b l) = l ∧ 1 ≤ valB b l := by
  intro l
  induction h : l.length generalizing l with
  | zero =>
    intro _ _ hne
    exact absurd (List.length_eq_zero_iff.mp h) hne
  | succ k ih =>
    intro hd hx hne
    have e := List.dropLast_concat_getLast hne
    have hl : l.dropLast.length = k := by rw [List.length_dropLast, h] <;> rfl
    have hlast : l.getLast hne < b := hd _ (List.getLast_mem hne)
    by_cases hk : l.dropLast = []
    · rw [hk, List.nil_append] at e
      have hx1 : 1 ≤ l.getLast hne := hx _ [] e.symm
      rw [← e]
      have v : valB b [l.getLast hne] = l.getLast hne := by
        show 0 * b + _ = _
        omega
      rw [v]
      exact ⟨figs_lt hlast, hx1⟩
    · have q := ih l.dropLast hl (fun d hd' => hd d (List.dropLast_subset l hd')) (fun x r e' => hx x (r ++ [l.getLast hne]) (by rw [← List.cons_append, ← e', e])) hk
      have v : valB b l = valB b l.dropLast * b + l.getLast hne := by
        rw [← valB_snoc, e]
      have hge : b ≤ valB b l := by
        rw [v]
        exact Nat.le_trans (Nat.le_mul_of_pos_left b q.2) (Nat.le_add_right _ _)
      have hdiv : valB b l / b = valB b l.dropLast := by
        rw [v, Nat.mul_comm, Nat.mul_add_div (by omega), Nat.div_eq_of_lt hlast, Nat.add_zero]
      have hmod : valB b l % b = l.getLast hne := by
        rw [v, Nat.mul_comm, Nat.mul_add_mod, Nat.mod_eq_of_lt hlast]
      refine ⟨?_, by omega⟩
      rw [figs_ge hb hge, hdiv, hmod, q.1]
      exact e
theorem valB_lt (hb : 2 ≤ b) : ∀ l : List Nat, (∀ d ∈ l, d < b) → valB b l < b ^ l.length := by
  intro l
  induction h : l.length generalizing l with
  | zero =>
    intro _
    have e : l = [] := List.length_eq_zero_iff.mp h
    subst e
    show 0 < b ^ 0
    exact Nat.pow_pos (by omega)
  | succ k ih =>
    intro hd
    have hne : l ≠ [] := by
      intro e
      rw [e] at h
      cases h
    have e := List.dropLast_concat_getLast hne
    have hl : l.dropLast.length = k := by rw [List.length_dropLast, h] <;> rfl
    have hlast : l.getLast hne < b := hd _ (List.getLast_mem hne)
    have q := ih l.dropLast hl (fun d hd' => hd d (List.dropLast_subset l hd'))
    have v : valB b l = valB b l.dropLast * b + l.getLast hne := by
      rw [← valB_snoc, e]
    rw [v, Nat.pow_succ]
    have q2 : valB b l.dropLast * b + b ≤ b ^ k * b := by
      rw [← Nat.succ_mul]
      exact Nat.mul_le_mul_right b q
    omega
theorem figs_head (hb : 2 ≤ b) : ∀ n, 1 ≤ n → ∀ x r, figs b n = x :: r → 1 ≤ x := by
  intro n
  induction n using Nat.strongRecOn with
  | ind n ih =>
    intro hn x r e
    by_cases h : n < b
    · rw [figs_lt h] at e
      injection e with e1 e2
      omega
    · have hlt : n / b < n := Nat.div_lt_self (by omega) (by omega)
      have h1 : 1 ≤ n / b := (Nat.le_div_iff_mul_le (by omega)).mpr (by omega)
      rw [figs_ge hb (by omega)] at e
      cases q : figs b (n / b) with
      | nil =>
        have p := nd_pos (n := n / b) hb
        unfold nd at p
        rw [q] at p
        simp at p
      | cons y t =>
        rw [q, List.cons_append] at e
        injection e with e1 e2
        rw [← e1]
        exact ih _ hlt h1 y t q
theorem figs_ne (hb : 2 ≤ b) : figs b n ≠ [] := by
  intro e
  have p := nd_pos (n := n) hb
  unfold nd at p
  rw [e] at p
  simp at p
/-! ### the first half -/
/-- the last i figures -/
def low (b : Nat) : Nat → Nat → List Nat
  | 0, _ => []
  | i + 1, n => low b i (n / b) ++ [n % b]
theorem low_len : ∀ (i n : Nat), (low b i n).length = i
  | 0, _ => rfl
  | i + 1, n => by
    show (low b i (n / b) ++ [n % b]).length = i + 1
    rw [List.length_append, low_len i] <;> rfl
theorem figs_cut (hb : 2 ≤ b) : ∀ (i n : Nat), i < nd b n → figs b n = figs b (n / b ^ i) ++ low b i n
  | 0, n, _ => by
    show figs b n = figs b (n / b ^ 0) ++ []
    rw [Nat.pow_zero, Nat.div_one, List.append_nil]
  | i + 1, n, h => by
    have hge : b ≤ n := by
      by_cases q : n < b
      · rw [nd_lt q] at h
        omega
      · omega
    have h2 : i < nd b (n / b) := by
      rw [nd_ge hb hge] at h
      omega
    rw [figs_ge hb hge, figs_cut hb i (n / b) h2, Nat.div_div_eq_div_mul, Nat.pow_succ, Nat.mul_comm (b ^ i) b]
    show _ = _ ++ (low b i (n / b) ++ [n % b])
    rw [List.append_assoc]
theorem nd_div (hb : 2 ≤ b) {i n : Nat} (h : i < nd b n) : nd b (n / b ^ i) = nd b n - i := by
  have e := congrArg List.length (figs_cut hb i n h)
  rw [List.length_append, low_len] at e
  unfold nd
  omega
theorem figs_take (hb : 2 ≤ b) {i n : Nat} (h : i < nd b n) : (figs b n).take (nd b n - i) = figs b (n / b ^ i) := by
  have e1 := nd_div hb h
  rw [figs_cut hb i n h, ← e1]
  exact List.take_left
/-- the first half of the figures as a number -/
def half (b n : Nat) : Nat := n / b ^ (nd b n / 2)
theorem half_is (hb : 2 ≤ b) (n : Nat) : valB b ((figs b n).take ((nd b n + 1) / 2)) = half b n := by
  have p := nd_pos (n := n) hb
  have e : (nd b n + 1) / 2 = nd b n - nd b n / 2 := by omega
  rw [e, figs_take hb (by omega), valB_figs hb] <;> rfl
/-- the mirrored number of s figures with a first half -/
def mir (b h s : Nat) : Nat := valB b (figs b h ++ ((figs b h).take (s / 2)).reverse)
variable {h s : Nat}
theorem mir_eq (hb : 2 ≤ b) (hs : s / 2 ≤ nd b h) : ∃ r, r < b ^ (s / 2) ∧ mir b h s = h * b ^ (s / 2) + r := by
  refine ⟨valB b ((figs b h).take (s / 2)).reverse, ?_, ?_⟩
  · have q := valB_lt hb ((figs b h).take (s / 2)).reverse (fun d hd => figs_bd hb h d (List.mem_of_mem_take (List.mem_reverse.mp hd)))
    rw [List.length_reverse, List.length_take] at q
    have e : min (s / 2) (figs b h).length = s / 2 := by
      unfold nd at hs
      omega
    rw [e] at q
    exact q
  · unfold mir
    rw [valB_app, valB_figs hb, List.length_reverse, List.length_take]
    have e : min (s / 2) (figs b h).length = s / 2 := by
      unfold nd at hs
      omega
    rw [e]
theorem mir_figs (hb : 2 ≤ b) (h1 : 1 ≤ h) : figs b (mir b h s) = figs b h ++ ((figs b h).take (s / 2)).reverse := by
  refine (figs_valB hb _ (fun d hd => ?_) (fun x r e => ?_) (fun e => ?_)).1
  · rcases List.mem_append.mp hd with q | q
    · exact figs_bd hb h d q
    · exact figs_bd hb h d (List.mem_of_mem_take (List.mem_reverse.mp q))
  · cases q : figs b h with
    | nil => exact absurd q (figs_ne hb)
    | cons y t =>
      rw [q, List.cons_append] at e
      injection e with e1 e2
      rw [← e1]
      exact figs_head hb h h1 y t q
  · exact figs_ne hb (List.append_eq_nil_iff.mp e).1
/-- x and its mirror, the middle once or twice -/
theorem mirror_pal {x : List Nat} {j : Nat} (hj : j = x.length ∨ j + 1 = x.length) : (x ++ (x.take j).reverse).reverse = x ++ (x.take j).reverse := by
  rw [List.reverse_append, List.reverse_reverse]
  rcases hj with hj | hj
  · rw [hj, List.take_length]
  · have hne : x ≠ [] := by
      intro e
      rw [e] at hj
      simp at hj
    have e := List.dropLast_concat_getLast hne
    have et : x.take j = x.dropLast := by
      rw [List.dropLast_eq_take]
      congr 1
      omega
    rw [et]
    have er : x.reverse = x.getLast hne :: x.dropLast.reverse := by
      have q := congrArg List.reverse e
      rw [List.reverse_append] at q
      exact q.symm
    rw [er]
    have e2 : x ++ x.dropLast.reverse = (x.dropLast ++ [x.getLast hne]) ++ x.dropLast.reverse := by rw [e]
    rw [e2, List.append_assoc] <;> rfl
theorem mir_pal (hb : 2 ≤ b) (h1 : 1 ≤ h) (hs : nd b h = (s + 1) / 2) : isPal b (mir b h s) = true := by
  unfold isPal
  rw [mir_figs hb h1]
  refine decide_eq_true (mirror_pal ?_).symm
  unfold nd at hs
  omega
theorem mir_nd (hb : 2 ≤ b) (h1 : 1 ≤ h) (hs : nd b h = (s + 1) / 2) : nd b (mir b h s) = s := by
  unfold nd
  rw [mir_figs hb h1, List.length_append, List.length_reverse, List.length_take]
  unfold nd at hs
  omega
theorem mir_half (hb : 2 ≤ b) (h1 : 1 ≤ h) (hs : nd b h = (s + 1) / 2) : half b (mir b h s) = h := by
  obtain ⟨r, hr, e⟩ := mir_eq (s := s) hb (h := h) (by omega)
  unfold half
  rw [mir_nd hb h1 hs, e, Nat.mul_comm, Nat.mul_add_div (Nat.pow_pos (by omega)), Nat.div_eq_of_lt hr, Nat.add_zero]
theorem half_nd (hb : 2 ≤ b) (n : Nat) : nd b (half b n) = (nd b n + 1) / 2 := by
  have p := nd_pos (n := n) hb
  unfold half
  rw [nd_div hb (by omega)]
  omega
theorem half_pos (hb : 2 ≤ b) (hn : 1 ≤ n) : 1 ≤ half b n := by
  have l := nd_low hb n hn
  have p := nd_pos (n := n) hb
  unfold half
  refine (Nat.le_div_iff_mul_le (Nat.pow_pos (by omega))).mpr ?_
  rw [Nat.one_mul]
  exact Nat.le_trans (Nat.pow_le_pow_right (by omega) (by omega)) l
/-- a mirrored number is the one of its first half -/
theorem pal_mir (hb : 2 ≤ b) (hp : isPal b n = true) : mir b (half b n) (nd b n) = n := by
  have e : figs b n = (figs b n).reverse := of_decide_eq_true hp
  have p := nd_pos (n := n) hb
  have hi : nd b n / 2 < nd b n := by omega
  have e1 := figs_cut hb (nd b n / 2) n hi
  have et : (figs b n).take (nd b n / 2) = (figs b (half b n)).take (nd b n / 2) := by
    have hl : (figs b (n / b ^ (nd b n / 2))).length = nd b n - nd b n / 2 := nd_div hb hi
    rw [e1]
    show List.take _ _ = List.take _ (figs b (n / b ^ (nd b n / 2)))
    rw [List.take_append_of_le_length (by omega)]
  have ed : low b (nd b n / 2) n = ((figs b n).take (nd b n / 2)).reverse := by
    have h1 : (figs b n).drop (nd b n - nd b n / 2) = low b (nd b n / 2) n := by
      have hl : (figs b (n / b ^ (nd b n / 2))).length = nd b n - nd b n / 2 := nd_div hb hi
      rw [← hl, e1]
      exact List.drop_left
    rw [← h1]
    have h2 : (figs b n).drop (nd b n - nd b n / 2) = (figs b n).reverse.drop (nd b n - nd b n / 2) := by rw [← e]
    rw [h2, List.drop_reverse]
    have h3 : (figs b n).length - (nd b n - nd b n / 2) = nd b n / 2 := by
      show nd b n - _ = _
      omega
    rw [h3]
  unfold mir
  rw [← et, ← ed]
  have e2 : figs b (half b n) ++ low b (nd b n / 2) n = figs b n := e1.symm
  rw [e2, valB_figs hb]
theorem half_mul (hb : 2 ≤ b) : half b n * b ^ (nd b n / 2) ≤ n ∧ n < (half b n + 1) * b ^ (nd b n / 2) := by
  unfold half
  have hp : 0 < b ^ (nd b n / 2) := Nat.pow_pos (by omega)
  refine ⟨Nat.div_mul_le_self _ _, ?_⟩
  rw [Nat.add_mul, Nat.one_mul]
  have := Nat.lt_div_mul_add (a := n) hp
  omega
theorem half_range (hb : 2 ≤ b) (hn : 1 ≤ n) : b ^ ((nd b n - 1) / 2) ≤ half b n ∧ half b n < b ^ ((nd b n - 1) / 2) * b := by
  have h1 := half_nd hb n
  have h2 := nd_low hb (half b n) (half_pos hb hn)
  have h3 := nd_up hb (half b n)
  have p := nd_pos (n := n) hb
  rw [h1] at h2 h3
  have e1 : (nd b n + 1) / 2 - 1 = (nd b n - 1) / 2 := by omega
  have e2 : (nd b n + 1) / 2 = (nd b n - 1) / 2 + 1 := by omega
  rw [e1] at h2
  rw [e2, Nat.pow_succ] at h3
  exact ⟨h2, h3⟩
/-- h is a first half of s figures -/
theorem nd_of_range (hb : 2 ≤ b) (hs : 1 ≤ s) (h1 : b ^ ((s - 1) / 2) ≤ h) (h2 : h < b ^ ((s - 1) / 2) * b) : nd b h = (s + 1) / 2 := by
  refine nd_unique hb ?_ (by omega) ?_ ?_
  · exact Nat.le_trans (Nat.pow_pos (by omega)) h1
  · have e1 : (s + 1) / 2 - 1 = (s - 1) / 2 := by omega
    rw [e1]
    exact h1
  · have e2 : (s + 1) / 2 = (s - 1) / 2 + 1 := by omega
    rw [e2, Nat.pow_succ]
    exact h2
theorem mir_mono (hb : 2 ≤ b) {g : Nat} (hg : s / 2 ≤ nd b g) (hh : s / 2 ≤ nd b h) (hlt : g < h) : mir b g s < mir b h s := by
  obtain ⟨r, hr, e⟩ := mir_eq (s := s) hb hg
  obtain ⟨r', hr', e'⟩ := mir_eq (s := s) hb hh
  rw [e, e']
  have q : (g + 1) * b ^ (s / 2) ≤ h * b ^ (s / 2) := Nat.mul_le_mul_right _ hlt
  rw [Nat.add_mul, Nat.one_mul] at q
  omega
end
end MS

namespace MS
/-! ### how many, and each by its place -/
def cntP (b s : Nat) : Nat := (b - 1) * b ^ ((s - 1) / 2)
/-- those of at most t figures -/
def cum (b : Nat) : Nat → Nat
  | 0 => 0
  | t + 1 => cum b t + cntP b (t + 1)
def manyTo (b n : Nat) : Nat := if n = 0 then 0 else
  (half b n - b ^ ((nd b n - 1) / 2) + if mir b (half b n) (nd b n) ≤ n then 1 else 0) + cum b (nd b n - 1)
def atLoop (b left size : Nat) : Nat × Nat := if 2 ≤ b ∧ cntP b size ≤ left ∧ 1 ≤ cntP b size then atLoop b (left - cntP b size) (size + 1) else (size, left)
termination_by left
decreasing_by omega
def atP (b p : Nat) : Nat := if p = 0 then 0 else
  mir b (b ^ (((atLoop b (p - 1) 1).1 - 1) / 2) + (atLoop b (p - 1) 1).2) (atLoop b (p - 1) 1).1
section
variable {b : Nat}
theorem cntP_pos (hb : 2 ≤ b) (s : Nat) : 1 ≤ cntP b s := Nat.mul_pos (by omega) (Nat.pow_pos (by omega))
theorem cntP_top (hb : 2 ≤ b) (s : Nat) : b ^ ((s - 1) / 2) + cntP b s = b ^ ((s - 1) / 2) * b := by
  unfold cntP
  obtain ⟨c, rfl⟩ : ∃ c, b = c + 1 := ⟨b - 1, by omega⟩
  rw [Nat.add_sub_cancel, Nat.mul_comm c, Nat.mul_succ]
  omega
theorem cum_mono (hb : 2 ≤ b) {s t : Nat} (h : s < t) : cum b s + cntP b (s + 1) ≤ cum b t := by
  induction t with
  | zero => omega
  | succ t ih =>
    by_cases e : s = t
    · subst e
      exact Nat.le_refl _
    · have := ih (by omega)
      show _ ≤ cum b t + cntP b (t + 1)
      omega
theorem atLoop_spec (hb : 2 ≤ b) : ∀ (left size : Nat), 1 ≤ size →
    1 ≤ (atLoop b left size).1 ∧ (atLoop b left size).2 < cntP b (atLoop b left size).1 ∧ cum b (size - 1) + left = cum b ((atLoop b left size).1 - 1) + (atLoop b left size).2 := by
  intro left
  induction left using Nat.strongRecOn with
  | ind left ih =>
    intro size hs
    have cp := cntP_pos hb size
    rw [atLoop]
    by_cases h : cntP b size ≤ left
    · rw [if_pos ⟨hb, h, cp⟩]
      have q := ih (left - cntP b size) (by omega) (size + 1) (by omega)
      refine ⟨q.1, q.2.1, ?_⟩
      rw [← q.2.2]
      obtain ⟨t, rfl⟩ : ∃ t, size = t + 1 := ⟨size - 1, by omega⟩
      show cum b (t + 1 - 1) + left = cum b (t + 1 + 1 - 1) + (left - cntP b (t + 1))
      rw [Nat.add_sub_cancel, Nat.add_sub_cancel]
      show cum b t + left = (cum b t + cntP b (t + 1)) + _
      omega
    · rw [if_neg (by omega)]
      exact ⟨hs, by show left < cntP b size; omega, rfl⟩
/-- the place p is the j-th of those of s figures -/
theorem atP_at (hb : 2 ≤ b) {p : Nat} (hp : 1 ≤ p) : ∃ s j, 1 ≤ s ∧ j < cntP b s ∧ p = cum b (s - 1) + j + 1 ∧ atP b p = mir b (b ^ ((s - 1) / 2) + j) s := by
  have q := atLoop_spec hb (p - 1) 1 (Nat.le_refl _)
  refine ⟨_, _, q.1, q.2.1, ?_, ?_⟩
  · have e : cum b (1 - 1) = 0 := rfl
    have e2 := q.2.2
    omega
  · unfold atP
    rw [if_neg (by omega)]
theorem place_unique (hb : 2 ≤ b) {s j t k : Nat} (hs : 1 ≤ s) (ht : 1 ≤ t) (hj : j < cntP b s) (hk : k < cntP b t) (e : cum b (s - 1) + j = cum b (t - 1) + k) : s = t ∧ j = k := by
  by_cases h : s = t
  · subst h
    exact ⟨rfl, by omega⟩
  · exfalso
    rcases Nat.lt_or_gt_of_ne h with q | q
    · have := cum_mono hb (s := s - 1) (t := t - 1) (by omega)
      rw [Nat.sub_add_cancel hs] at this
      omega
    · have := cum_mono hb (s := t - 1) (t := s - 1) (by omega)
      rw [Nat.sub_add_cancel ht] at this
      omega
theorem atP_of (hb : 2 ≤ b) {s j : Nat} (hs : 1 ≤ s) (hj : j < cntP b s) : atP b (cum b (s - 1) + j + 1) = mir b (b ^ ((s - 1) / 2) + j) s := by
  obtain ⟨t, k, ht, hk, e, q⟩ := atP_at hb (p := cum b (s - 1) + j + 1) (by omega)
  obtain ⟨rfl, rfl⟩ := place_unique hb hs ht hj hk (by omega)
  exact q
/-- the halves of s figures -/
theorem half_ok (hb : 2 ≤ b) {s j : Nat} (hs : 1 ≤ s) (hj : j < cntP b s) : nd b (b ^ ((s - 1) / 2) + j) = (s + 1) / 2 ∧ 1 ≤ b ^ ((s - 1) / 2) + j := by
  have c := cntP_top hb s
  have p : 0 < b ^ ((s - 1) / 2) := Nat.pow_pos (by omega)
  exact ⟨nd_of_range hb hs (by omega) (by omega), by omega⟩
theorem mir_pos (hb : 2 ≤ b) {h s : Nat} (h1 : 1 ≤ h) (hs : nd b h = (s + 1) / 2) : 1 ≤ mir b h s := by
  obtain ⟨r, hr, e⟩ := mir_eq (s := s) hb (h := h) (by omega)
  rw [e]
  have : 1 * 1 ≤ h * b ^ (s / 2) := Nat.mul_le_mul h1 (Nat.pow_pos (by omega))
  omega
theorem mir_lt_of_size (hb : 2 ≤ b) {h s n : Nat} (h1 : 1 ≤ h) (hs : nd b h = (s + 1) / 2) (hlt : s < nd b n) : mir b h s < n := by
  have u := nd_up hb (mir b h s)
  rw [mir_nd hb h1 hs] at u
  have hn : 1 ≤ n := by
    by_cases q : n = 0
    · rw [q, nd_lt (by omega)] at hlt
      have p := nd_pos (b := b) (n := h) hb
      omega
    · omega
  have l := nd_low hb n hn
  exact Nat.lt_of_lt_of_le u (Nat.le_trans (Nat.pow_le_pow_right (by omega) (by omega)) l)
theorem mir_gt_of_size (hb : 2 ≤ b) {h s n : Nat} (h1 : 1 ≤ h) (hs : nd b h = (s + 1) / 2) (hlt : nd b n < s) : n < mir b h s := by
  have l := nd_low hb (mir b h s) (mir_pos hb h1 hs)
  rw [mir_nd hb h1 hs] at l
  have u := nd_up hb n
  exact Nat.lt_of_lt_of_le u (Nat.le_trans (Nat.pow_le_pow_right (by omega) (by omega)) l)
/-- of equal size: by the halves -/
theorem mir_le_iff (hb : 2 ≤ b) {g n : Nat} (hn : 1 ≤ n) (hg : nd b g = (nd b n + 1) / 2) :
    mir b g (nd b n) ≤ n ↔ g < half b n ∨ (g = half b n ∧ mir b (half b n) (nd b n) ≤ n) := by
  obtain ⟨r, hr, e⟩ := mir_eq (s := nd b n) hb (h := g) (by omega)
  have hm := half_mul (n := n) hb
  have hhn := half_nd hb n
  constructor
  · intro h
    by_cases q : g < half b n
    · exact .inl q
    · by_cases q2 : g = half b n
      · rw [q2] at h
        exact .inr ⟨q2, h⟩
      · exfalso
        have h3 : (half b n + 1) * b ^ (nd b n / 2) ≤ g * b ^ (nd b n / 2) := Nat.mul_le_mul_right _ (by omega)
        omega
  · rintro (h | ⟨rfl, h⟩)
    · have h3 : (g + 1) * b ^ (nd b n / 2) ≤ half b n * b ^ (nd b n / 2) := Nat.mul_le_mul_right _ h
      rw [Nat.add_mul, Nat.one_mul] at h3
      omega
    · exact h
/-- the place p is at most n -/
theorem atP_le (hb : 2 ≤ b) {p : Nat} (hp : 1 ≤ p) (n : Nat) : atP b p ≤ n ↔ p ≤ manyTo b n := by
  obtain ⟨s, j, hs, hj, e, q⟩ := atP_at hb hp
  obtain ⟨o1, o2⟩ := half_ok hb hs hj
  have c := cntP_top hb s
  rw [q, e]
  by_cases hn : n = 0
  · have := mir_pos hb o2 o1
    rw [hn]
    unfold manyTo
    rw [if_pos rfl]
    omega
  · unfold manyTo
    rw [if_neg hn]
    have hr := half_range (b := b) (n := n) hb (by omega)
    have p1 := nd_pos (b := b) (n := n) hb
    rcases Nat.lt_trichotomy s (nd b n) with h | h | h
    · have h1 := mir_lt_of_size hb (n := n) o2 o1 h
      have h2 := cum_mono hb (s := s - 1) (t := nd b n - 1) (by omega)
      rw [Nat.sub_add_cancel hs] at h2
      omega
    · subst h
      rw [mir_le_iff hb (by omega) o1]
      by_cases hm : mir b (half b n) (nd b n) ≤ n
      · rw [if_pos hm]
        constructor
        · rintro (z | z) <;> omega
        · intro z
          by_cases w : b ^ ((nd b n - 1) / 2) + j < half b n
          · exact .inl w
          · exact .inr ⟨by omega, hm⟩
      · rw [if_neg hm]
        constructor
        · rintro (z | z)
          · omega
          · exact absurd z.2 hm
        · intro z
          exact .inl (by omega)
    · have h1 := mir_gt_of_size hb (n := n) o2 o1 h
      have h2 := cum_mono hb (s := nd b n - 1) (t := s - 1) (by omega)
      rw [Nat.sub_add_cancel p1] at h2
      have c2 := cntP_top hb (nd b n)
      constructor
      · intro z
        omega
      · intro z
        exfalso
        have h5 : ¬ (cum b (s - 1) + j + 1 ≤ half b n - b ^ ((nd b n - 1) / 2) + 1 + cum b (nd b n - 1)) := by
          omega
        split at z <;> omega
theorem atP_pal (hb : 2 ≤ b) {p : Nat} (hp : 1 ≤ p) : isPal b (atP b p) = true ∧ 1 ≤ atP b p := by
  obtain ⟨s, j, hs, hj, e, q⟩ := atP_at hb hp
  obtain ⟨o1, o2⟩ := half_ok hb hs hj
  rw [q]
  exact ⟨mir_pal hb o2 o1, mir_pos hb o2 o1⟩
theorem atP_strict (hb : 2 ≤ b) {p q : Nat} (hp : 1 ≤ p) (h : p < q) : atP b p < atP b q := by
  obtain ⟨s, j, hs, hj, e, a⟩ := atP_at hb hp
  obtain ⟨t, k, ht, hk, e', a'⟩ := atP_at hb (p := q) (by omega)
  obtain ⟨o1, o2⟩ := half_ok hb hs hj
  obtain ⟨u1, u2⟩ := half_ok hb ht hk
  rw [a, a']
  rcases Nat.lt_trichotomy s t with z | z | z
  · exact mir_lt_of_size hb o2 o1 (by rw [mir_nd hb u2 u1]; exact z)
  · subst z
    exact mir_mono hb (by omega) (by omega) (by omega)
  · exfalso
    have h2 := cum_mono hb (s := t - 1) (t := s - 1) (by omega)
    rw [Nat.sub_add_cancel ht] at h2
    omega
/-- every mirrored number above 0 has its place -/
theorem pal_at (hb : 2 ≤ b) {n : Nat} (hn : 1 ≤ n) (hp : isPal b n = true) : ∃ p, 1 ≤ p ∧ atP b p = n := by
  have hr := half_range (b := b) hb hn
  have p1 := nd_pos (b := b) (n := n) hb
  have c := cntP_top hb (nd b n)
  refine ⟨cum b (nd b n - 1) + (half b n - b ^ ((nd b n - 1) / 2)) + 1, by omega, ?_⟩
  rw [atP_of hb p1 (by omega)]
  have e : b ^ ((nd b n - 1) / 2) + (half b n - b ^ ((nd b n - 1) / 2)) = half b n := by omega
  rw [e, pal_mir hb hp]
/-- rising lists with the same members are the same -/
theorem rise_ext : ∀ {l r : List Nat}, l.Pairwise (· < ·) → r.Pairwise (· < ·) → (∀ x, x ∈ l ↔ x ∈ r) → l = r
  | [], [], _, _, _ => rfl
  | [], y :: r, _, _, h => by
    have := (h y).mpr List.mem_cons_self
    cases this
  | x :: l, [], _, _, h => by
    have := (h x).mp List.mem_cons_self
    cases this
  | x :: l, y :: r, hl, hr, h => by
    rw [List.pairwise_cons] at hl hr
    have e : x = y := by
      rcases List.mem_cons.mp ((h x).mp List.mem_cons_self) with e | e
      · exact e
      · rcases List.mem_cons.mp ((h y).mpr List.mem_cons_self) with e' | e'
        · exact e'.symm
        · have a := hl.1 y e'
          have c := hr.1 x e
          omega
    subst e
    congr 1
    refine rise_ext hl.2 hr.2 fun z => ?_
    constructor
    · intro hz
      rcases List.mem_cons.mp ((h z).mp (List.mem_cons_of_mem _ hz)) with e | e
      · have := hl.1 z hz
        omega
      · exact e
    · intro hz
      rcases List.mem_cons.mp ((h z).mpr (List.mem_cons_of_mem _ hz)) with e | e
      · have := hr.1 z hz
        omega
      · exact e
/-- the mirrored numbers from 1 to n, rising -/
def pals (b n : Nat) : List Nat := (List.range' 1 n).filter (isPal b)
theorem pals_mem {n x : Nat} : x ∈ pals b n ↔ 1 ≤ x ∧ x ≤ n ∧ isPal b x = true := by
  unfold pals
  rw [List.mem_filter, List.mem_range'_1]
  constructor
  · rintro ⟨h1, h2⟩
    exact ⟨h1.1, by omega, h2⟩
  · rintro ⟨h1, h2, h3⟩
    exact ⟨by omega, h3⟩
theorem range'_rise : ∀ (n a : Nat), (List.range' a n).Pairwise (· < ·)
  | 0, _ => List.Pairwise.nil
  | n + 1, a => by
    rw [List.range'_succ, List.pairwise_cons]
    refine ⟨fun y hy => ?_, range'_rise n (a + 1)⟩
    have := List.mem_range'_1.mp hy
    omega
theorem pals_rise (n : Nat) : (pals b n).Pairwise (· < ·) := List.Pairwise.filter _ (range'_rise n 1)
theorem mirroredTo (hb : 2 ≤ b) (n : Nat) : (List.range' 1 (manyTo b n)).map (atP b) = pals b n := by
  refine rise_ext ?_ (pals_rise n) fun x => ?_
  · rw [List.pairwise_map]
    refine List.Pairwise.imp_of_mem (R := (· < ·)) (fun {a c} ha hc h => ?_) (range'_rise _ 1)
    have := List.mem_range'_1.mp ha
    exact atP_strict hb this.1 h
  · rw [pals_mem, List.mem_map]
    constructor
    · rintro ⟨p, hp, rfl⟩
      have h := List.mem_range'_1.mp hp
      have q := atP_pal hb h.1
      exact ⟨q.2, (atP_le hb h.1 n).mpr (by omega), q.1⟩
    · rintro ⟨h1, h2, h3⟩
      obtain ⟨p, hp, e⟩ := pal_at hb h1 h3
      refine ⟨p, List.mem_range'_1.mpr ⟨hp, ?_⟩, e⟩
      have := (atP_le hb hp n).mp (by omega)
      omega
end
end MS

namespace MS
/-! ### the fewest -/
def minL : List Nat → Nat
  | [] => 0
  | [x] => x
  | x :: y :: r => min x (minL (y :: r))
theorem minL_mem : ∀ l : List Nat, l ≠ [] → minL l ∈ l
  | [], h => absurd rfl h
  | [x], _ => List.mem_cons_self
  | x :: y :: r, _ => by
    show min x (minL (y :: r)) ∈ _
    rw [Nat.min_def]
    split
    · exact List.mem_cons_self
    · exact List.mem_cons_of_mem _ (minL_mem (y :: r) (by simp))
theorem minL_le : ∀ (l : List Nat) (z : Nat), z ∈ l → minL l ≤ z
  | [], z, h => by cases h
  | [x], z, h => by
    rw [List.mem_singleton.mp h]
    exact Nat.le_refl _
  | x :: y :: r, z, h => by
    show min x (minL (y :: r)) ≤ z
    rcases List.mem_cons.mp h with e | e
    · rw [e]
      exact Nat.min_le_left _ _
    · exact Nat.le_trans (Nat.min_le_right _ _) (minL_le (y :: r) z e)
theorem minL_eq {l : List Nat} {m : Nat} (h : m ∈ l) (hm : ∀ y ∈ l, m ≤ y) : minL l = m := by
  have h1 := minL_le l m h
  have h2 := hm _ (minL_mem l (fun e => by rw [e] at h; cases h))
  omega
def need (b n : Nat) : Nat := if n = 0 then 0 else 1 + minL ((pals b n).attach.map fun p => need b (n - p.1))
termination_by n
decreasing_by
  have := (pals_mem (b := b)).mp p.2
  omega
section
variable {b : Nat}
theorem need_zero : need b 0 = 0 := by
  rw [need, if_pos rfl]
theorem need_eq {n : Nat} (h : 1 ≤ n) : need b n = 1 + minL ((pals b n).map fun p => need b (n - p)) := by
  rw [need, if_neg (by omega)]
  congr 2
  exact List.attach_map_val (f := fun p => need b (n - p))
theorem one_pal (hb : 2 ≤ b) : isPal b 1 = true := by
  unfold isPal
  rw [figs_lt (by omega)]
  rfl
theorem pals_one (hb : 2 ≤ b) {n : Nat} (h : 1 ≤ n) : 1 ∈ pals b n := pals_mem.mpr ⟨Nat.le_refl _, h, one_pal hb⟩
theorem need_ex (hb : 2 ≤ b) {n : Nat} (h : 1 ≤ n) : ∃ p, p ∈ pals b n ∧ need b n = 1 + need b (n - p) := by
  rw [need_eq h]
  have hne : ((pals b n).map fun p => need b (n - p)) ≠ [] := by
    intro e
    have e2 := List.map_eq_nil_iff.mp e
    have := pals_one hb h
    rw [e2] at this
    cases this
  obtain ⟨p, hp, e⟩ := List.mem_map.mp (minL_mem _ hne)
  exact ⟨p, hp, by rw [e]⟩
theorem need_le {x p : Nat} (hp : 1 ≤ p) (h : isPal b p = true) : need b (x + p) ≤ 1 + need b x := by
  rw [need_eq (by omega)]
  have q := minL_le ((pals b (x + p)).map fun z => need b (x + p - z)) (need b (x + p - p)) (List.mem_map.mpr ⟨p, pals_mem.mpr ⟨hp, by omega, h⟩, rfl⟩)
  rw [Nat.add_sub_cancel] at q
  omega
theorem need_pos {n : Nat} (h : 1 ≤ n) : 1 ≤ need b n := by
  rw [need_eq h]
  omega
/-- each lesser need is met below -/
theorem need_down (hb : 2 ≤ b) {m : Nat} : ∀ x, m < need b x → ∃ y, y ≤ x ∧ need b y = m + 1 := by
  intro x
  induction x using Nat.strongRecOn with
  | ind x ih =>
    intro h
    by_cases e : need b x = m + 1
    · exact ⟨x, Nat.le_refl _, e⟩
    · have hx : 1 ≤ x := by
        by_cases z : x = 0
        · rw [z, need_zero] at h
          omega
        · omega
      obtain ⟨p, hp, q⟩ := need_ex hb hx
      have hp' := pals_mem.mp hp
      obtain ⟨y, hy, r⟩ := ih (x - p) (by omega) (by omega)
      exact ⟨y, by omega, r⟩
/-- the table to n -/
def tab (b n : Nat) : List Nat := (List.range (n + 1)).map (need b)
theorem tab_zero : tab b 0 = [0] := by
  unfold tab
  show [need b 0] = [0]
  rw [need_zero]
theorem tab_succ (n : Nat) : tab b (n + 1) = tab b n ++ [need b (n + 1)] := by
  unfold tab
  rw [List.range_succ, List.map_append]
  rfl
theorem tab_len (n : Nat) : (tab b n).length = n + 1 := by
  unfold tab
  rw [List.length_map, List.length_range]
theorem tab_get {n i : Nat} (h : i ≤ n) : (tab b n)[i]? = some (need b i) := by
  unfold tab
  rw [List.getElem?_map, List.getElem?_range (by omega)]
  rfl
theorem pals_filter {n m : Nat} (h : m ≤ n) : (pals b n).filter (fun p => decide (p ≤ m)) = pals b m := by
  refine rise_ext (List.Pairwise.filter _ (pals_rise n)) (pals_rise m) fun x => ?_
  rw [List.mem_filter, pals_mem, pals_mem]
  constructor
  · rintro ⟨⟨h1, h2, h3⟩, h4⟩
    exact ⟨h1, of_decide_eq_true h4, h3⟩
  · rintro ⟨h1, h2, h3⟩
    exact ⟨⟨h1, by omega, h3⟩, decide_eq_true h2⟩
theorem pals_bd (n : Nat) : (pals b n).length ≤ n := by
  have l := List.length_filter_le (isPal b) (List.range' 1 n)
  rw [List.length_range'] at l
  exact l
end
end MS

namespace MS
/-! ### the law's own table, level by level -/
def fl (b N : Nat) (S : Nat → Bool) : List Int := (List.range (N + 1)).map fun x => if S x = true then ((need b x : Nat) : Int) else -1
def cn (N : Nat) (S : Nat → Bool) : Nat := ((List.range (N + 1)).filter fun x => !S x).length
def lv (b m : Nat) (x : Nat) : Bool := decide (need b x ≤ m)
section
variable {b N m x : Nat} {S T : Nat → Bool}
theorem fl_len : (fl b N S).length = N + 1 := by
  unfold fl
  rw [List.length_map, List.length_range]
theorem fl_get (h : x ≤ N) : (fl b N S)[x]? = some (if S x = true then ((need b x : Nat) : Int) else -1) := by
  unfold fl
  rw [List.getElem?_map, List.getElem?_range (by omega)]
  rfl
theorem fl_set (h : x ≤ N) : (fl b N S).set x ((need b x : Nat) : Int) = fl b N (fun y => S y || y == x) := by
  refine List.ext_getElem? fun i => ?_
  by_cases hi : i ≤ N
  · by_cases e : i = x
    · subst e
      rw [List.getElem?_set_self (by rw [fl_len]; omega), fl_get hi, if_pos (by simp)]
    · rw [List.getElem?_set_ne (Ne.symm e), fl_get hi, fl_get hi]
      have q : (S i || i == x) = S i := by
        have : (i == x) = false := by simpa using e
        rw [this, Bool.or_false]
      rw [q]
  · rw [List.getElem?_eq_none (by rw [List.length_set, fl_len]; omega), List.getElem?_eq_none (by rw [fl_len]; omega)]
theorem fl_congr (h : ∀ x, x ≤ N → S x = T x) : fl b N S = fl b N T := by
  unfold fl
  refine List.map_congr_left fun x hx => ?_
  have := List.mem_range.mp hx
  rw [h x (by omega)]
theorem cn_congr (h : ∀ x, x ≤ N → S x = T x) : cn N S = cn N T := by
  unfold cn
  congr 1
  refine List.filter_congr fun x hx => ?_
  have := List.mem_range.mp hx
  rw [h x (by omega)]
theorem flt_le {l : List Nat} (h : ∀ x ∈ l, S x = true → T x = true) : (l.filter fun x => !T x).length ≤ (l.filter fun x => !S x).length := by
  induction l with
  | nil => exact Nat.le_refl _
  | cons a r ih =>
    have i2 := ih fun x hx => h x (List.mem_cons_of_mem _ hx)
    have h2 := h a List.mem_cons_self
    rw [List.filter_cons, List.filter_cons]
    cases e : S a with
    | true =>
      rw [h2 e]
      simpa using i2
    | false =>
      cases e2 : T a with
      | true =>
        simp
        omega
      | false => simpa using i2
theorem flt_lt {l : List Nat} (h : ∀ x ∈ l, S x = true → T x = true) (hx : x ∈ l) (h1 : S x = false) (h2 : T x = true) : (l.filter fun x => !T x).length < (l.filter fun x => !S x).length := by
  induction l with
  | nil => cases hx
  | cons a r ih =>
    have le := flt_le (l := r) (S := S) (T := T) fun x hx => h x (List.mem_cons_of_mem _ hx)
    rw [List.filter_cons, List.filter_cons]
    rcases List.mem_cons.mp hx with e | e
    · subst e
      rw [h1, h2]
      simp
      omega
    · have i2 := ih (fun x hx => h x (List.mem_cons_of_mem _ hx)) e
      have h3 := h a List.mem_cons_self
      cases e : S a with
      | true =>
        rw [h3 e]
        simpa using i2
      | false =>
        cases e2 : T a with
        | true =>
          simp
          omega
        | false => simpa using i2
theorem cn_lt (h : ∀ x, x ≤ N → S x = true → T x = true) (hx : x ≤ N) (h1 : S x = false) (h2 : T x = true) : cn N T < cn N S :=
  flt_lt (fun y hy => h y (by have := List.mem_range.mp hy; omega)) (List.mem_range.mpr (by omega)) h1 h2
theorem flt_one {l : List Nat} (hn : l.Nodup) (hx : x ∈ l) (h : S x = false) : (l.filter fun y => !S y).length = (l.filter fun y => !(S y || y == x)).length + 1 := by
  induction l with
  | nil => cases hx
  | cons a r ih =>
    have hn' := List.nodup_cons.mp hn
    rw [List.filter_cons, List.filter_cons]
    rcases List.mem_cons.mp hx with e | e
    · subst e
      have q : (r.filter fun y => !(S y || y == x)) = r.filter fun y => !S y := by
        refine List.filter_congr fun y hy => ?_
        have : (y == x) = false := by
          have ne : y ≠ x := fun z => hn'.1 (z ▸ hy)
          simpa using ne
        rw [this, Bool.or_false]
      rw [q, h]
      simp
    · have ne : (a == x) = false := by
        have ne : a ≠ x := fun z => hn'.1 (z ▸ e)
        simpa using ne
      rw [ne, Bool.or_false]
      have i2 := ih hn'.2 e
      cases e2 : S a with
      | true => simpa using i2
      | false =>
        simp
        simpa using i2
theorem cn_set (hx : x ≤ N) (h : S x = false) : cn N S = cn N (fun y => S y || y == x) + 1 := flt_one List.nodup_range (List.mem_range.mpr (by omega)) h
theorem lv_zero : lv b 0 x = (x == 0) := by
  unfold lv
  by_cases h : x = 0
  · subst h
    rw [need_zero]
    rfl
  · have p := need_pos (b := b) (n := x) (by omega)
    have e : (x == 0) = false := by simpa using h
    rw [e]
    exact decide_eq_false (by omega)
theorem fl_init : fl b N (lv b 0) = 0 :: List.replicate N (-1) := by
  refine List.ext_getElem? fun i => ?_
  by_cases hi : i ≤ N
  · rw [fl_get hi, lv_zero]
    cases i with
    | zero =>
      rw [need_zero]
      rfl
    | succ j =>
      rw [if_neg (by simp), List.getElem?_cons_succ, List.getElem?_replicate, if_pos (by omega)]
  · rw [List.getElem?_eq_none (by rw [fl_len]; omega), List.getElem?_eq_none (by rw [List.length_cons, List.length_replicate]; omega)]
theorem cn_init : cn N (lv b 0) = N := by
  unfold cn
  have e : ((List.range (N + 1)).filter fun x => !lv b 0 x) = List.range' 1 N := by
    rw [List.range_eq_range', List.range'_succ, List.filter_cons]
    rw [lv_zero]
    show List.filter _ _ = _
    rw [List.filter_eq_self.mpr]
    intro x hx
    rw [lv_zero]
    have := List.mem_range'_1.mp hx
    have ne : (x == 0) = false := by
      have : x ≠ 0 := by omega
      simpa using this
    rw [ne]
    rfl
  rw [e, List.length_range']
theorem cn_zero (h : cn N S = 0) : ∀ x, x ≤ N → S x = true := by
  intro x hx
  cases e : S x with
  | true => rfl
  | false =>
    exfalso
    unfold cn at h
    have q := List.eq_nil_of_length_eq_zero h
    have m : x ∈ (List.range (N + 1)).filter fun x => !S x := List.mem_filter.mpr ⟨List.mem_range.mpr (by omega), by rw [e]; rfl⟩
    rw [q] at m
    cases m
theorem cn_pos (h : 0 < cn N S) : ∃ x, x ≤ N ∧ S x = false := by
  unfold cn at h
  obtain ⟨x, hx⟩ := List.exists_mem_of_length_pos h
  have q := List.mem_filter.mp hx
  have l := List.mem_range.mp q.1
  refine ⟨x, by omega, ?_⟩
  cases e : S x with
  | false => rfl
  | true =>
    rw [e] at q
    exact absurd q.2 (by decide)
theorem fl_all (h : cn N S = 0) : fl b N S = (tab b N).map fun n : Nat => (n : Int) := by
  unfold fl tab
  rw [List.map_map]
  refine List.map_congr_left fun x hx => ?_
  have := List.mem_range.mp hx
  rw [if_pos (cn_zero h x (by omega))]
  rfl
/-- a level is left behind -/
theorem level_done (hb : 2 ≤ b) (h1 : ∀ x, lv b m x = true → S x = true) (h2 : ∀ x, S x = true → need b x ≤ m + 1) (h3 : ∀ x, need b x = m → ∀ p, p ∈ pals b N → x + p ≤ N → S (x + p) = true) :
    ∀ x, x ≤ N → S x = lv b (m + 1) x := by
  intro x hx
  cases e : S x with
  | true => exact (decide_eq_true (h2 x e)).symm
  | false =>
    refine (decide_eq_false fun hle => ?_).symm
    by_cases hm : need b x ≤ m
    · have := h1 x (decide_eq_true hm)
      rw [e] at this
      cases this
    · have x1 : 1 ≤ x := by
        by_cases z : x = 0
        · rw [z, need_zero] at hm
          omega
        · omega
      obtain ⟨p, hp, q⟩ := need_ex hb x1
      have hp' := pals_mem.mp hp
      have r := h3 (x - p) (by omega) p (pals_mem.mpr ⟨hp'.1, by omega, hp'.2.2⟩) (by omega)
      rw [Nat.sub_add_cancel hp'.2.1, e] at r
      cases r
theorem level_less (hb : 2 ≤ b) (h : 0 < cn N (lv b m)) : cn N (lv b (m + 1)) < cn N (lv b m) := by
  obtain ⟨x, hx, e⟩ := cn_pos h
  have e' : ¬ need b x ≤ m := of_decide_eq_false e
  obtain ⟨y, hy, q⟩ := need_down hb x (m := m) (by omega)
  refine cn_lt (x := y) (fun z _ hz => ?_) (by omega) (decide_eq_false (by omega)) (decide_eq_true (by omega))
  have : need b z ≤ m := of_decide_eq_true hz
  exact decide_eq_true (by omega)
end
end MS

namespace MS
theorem need_one {b n : Nat} (h : 1 ≤ n) (hp : isPal b n = true) : need b n = 1 := by
  have a := need_le (b := b) (x := 0) h hp
  have c := need_pos (b := b) h
  rw [Nat.zero_add, need_zero] at a
  omega
theorem need_two {b n x p : Nat} (h : 1 ≤ p) (hx : 1 ≤ x) (e : x + p = n) (hp : isPal b p = true) (hq : isPal b x = true) (hn : isPal b n = false) (hb : 2 ≤ b) : need b n = 2 := by
  have a := need_le (b := b) (x := x) h hp
  rw [e, need_one hx hq] at a
  obtain ⟨y, hy, e2⟩ := need_ex hb (n := n) (by omega)
  have hy' := pals_mem.mp hy
  have : y ≠ n := fun z => by
    rw [z, hn] at hy'
    exact absurd hy'.2.2 (by decide)
  have := need_pos (b := b) (n := n - y) (by omega)
  omega
theorem tab_2_3 : tab 2 3 = [0, 1, 2, 1] := by
  have f1 : figs 2 1 = [1] := figs_lt (by omega)
  have f2 : figs 2 2 = [1, 0] := by
    rw [figs_ge (by omega) (by omega)]
    show figs 2 1 ++ [0] = _
    rw [f1]
    rfl
  have f3 : figs 2 3 = [1, 1] := by
    rw [figs_ge (by omega) (by omega)]
    show figs 2 1 ++ [1] = _
    rw [f1]
    rfl
  have p1 : isPal 2 1 = true := by unfold isPal; rw [f1]; rfl
  have p2 : isPal 2 2 = false := by unfold isPal; rw [f2]; rfl
  have p3 : isPal 2 3 = true := by unfold isPal; rw [f3]; rfl
  rw [tab_succ, tab_succ, tab_succ, tab_zero, need_one (by omega) p1, need_two (x := 1) (p := 1) (by omega) (by omega) rfl p1 p1 p2 (by omega), need_one (by omega) p3]
  rfl
end MS

namespace Ms
open PySem PySem.Spec PyProof.Rows L2
def topS (i : Nat) : Stmt := PySem.Challenge.pw_mirrorsums_k28_tables_told.main.body.getD i (.Pass ⟨0, 0, 0, 0⟩)
abbrev s_is_whole : Stmt := topS 4
abbrev s_need_base : Stmt := topS 5
abbrev s_figures_of : Stmt := topS 6
abbrev s_put_together : Stmt := topS 7
abbrev s_power_of : Stmt := topS 9
abbrev s_half_of : Stmt := topS 10
abbrev s_mirror_of : Stmt := topS 11
abbrev s_many_of_size : Stmt := topS 12
abbrev s_many_to : Stmt := topS 13
abbrev s_mirrored_at : Stmt := topS 14
abbrev s_mirrored_to : Stmt := topS 16
abbrev s_table : Stmt := topS 18
abbrev s_law_hand : Stmt := topS 20
abbrev s_law_draw : Stmt := topS 21
abbrev s_law_cells : Stmt := topS 22
abbrev s_law_base : Stmt := topS 23
abbrev s_law_number : Stmt := topS 24
abbrev s_law_is : Stmt := topS 25
abbrev s_law_great : Stmt := topS 26
abbrev s_law_fewest : Stmt := topS 27
abbrev s_law_wholes : Stmt := topS 28
abbrev s_law : Stmt := topS 29
abbrev n_is_whole : List Str := ["thing"]
theorem c_is_whole : FnScope n_is_whole ["thing"] (defScope s_is_whole) := ⟨rfl, rfl, rfl, by decide +kernel, rfl, by decide +kernel, by decide +kernel⟩
abbrev n_need_base : List Str := ["base"]
theorem c_need_base : FnScope n_need_base ["base"] (defScope s_need_base) := ⟨rfl, rfl, rfl, by decide +kernel, rfl, by decide +kernel, by decide +kernel⟩
abbrev n_figures_of : List Str := ["number", "base", "found"]
theorem c_figures_of : FnScope n_figures_of ["number", "base"] (defScope s_figures_of) := ⟨rfl, rfl, rfl, by decide +kernel, rfl, by decide +kernel, by decide +kernel⟩
abbrev n_put_together : List Str := ["some", "base", "number", "figure"]
theorem c_put_together : FnScope n_put_together ["some", "base"] (defScope s_put_together) := ⟨rfl, rfl, rfl, by decide +kernel, rfl, by decide +kernel, by decide +kernel⟩
abbrev n_power_of : List Str := ["base", "many", "found", "turn"]
theorem c_power_of : FnScope n_power_of ["base", "many"] (defScope s_power_of) := ⟨rfl, rfl, rfl, by decide +kernel, rfl, by decide +kernel, by decide +kernel⟩
abbrev n_half_of : List Str := ["number", "base", "some"]
theorem c_half_of : FnScope n_half_of ["number", "base"] (defScope s_half_of) := ⟨rfl, rfl, rfl, by decide +kernel, rfl, by decide +kernel, by decide +kernel⟩
abbrev n_mirror_of : List Str := ["half", "size", "base", "some"]
theorem c_mirror_of : FnScope n_mirror_of ["half", "size", "base"] (defScope s_mirror_of) := ⟨rfl, rfl, rfl, by decide +kernel, rfl, by decide +kernel, by decide +kernel⟩
abbrev n_many_of_size : List Str := ["size", "base"]
theorem c_many_of_size : FnScope n_many_of_size ["size", "base"] (defScope s_many_of_size) := ⟨rfl, rfl, rfl, by decide +kernel, rfl, by decide +kernel, by decide +kernel⟩
abbrev n_many_to : List Str := ["number", "base", "size", "half", "many", "lesser"]
theorem c_many_to : FnScope n_many_to ["number", "base"] (defScope s_many_to) := ⟨rfl, rfl, rfl, by decide +kernel, rfl, by decide +kernel, by decide +kernel⟩
abbrev n_mirrored_at : List Str := ["place", "base", "left", "size"]
theorem c_mirrored_at : FnScope n_mirrored_at ["place", "base"] (defScope s_mirrored_at) := ⟨rfl, rfl, rfl, by decide +kernel, rfl, by decide +kernel, by decide +kernel⟩
abbrev n_mirrored_to : List Str := ["number", "base", "place"]
theorem c_mirrored_to : FnScope n_mirrored_to ["number", "base"] (defScope s_mirrored_to) := ⟨rfl, rfl, rfl, by decide +kernel, rfl, by decide +kernel, by decide +kernel⟩
abbrev n_table : List Str := ["bound", "base", "parts", "found", "number", "part"]
theorem c_table : FnScope n_table ["bound", "base"] (defScope s_table) := ⟨rfl, rfl, rfl, by decide +kernel, rfl, by decide +kernel, by decide +kernel⟩
abbrev n_law_hand : List Str := ["cell", "k", "digits"]
theorem c_law_hand : FnScope n_law_hand ["cell", "k"] (defScope s_law_hand) := ⟨rfl, rfl, rfl, by decide +kernel, rfl, by decide +kernel, by decide +kernel⟩
abbrev n_law_draw : List Str := ["hand", "limit", "got"]
theorem c_law_draw : FnScope n_law_draw ["hand", "limit"] (defScope s_law_draw) := ⟨rfl, rfl, rfl, by decide +kernel, rfl, by decide +kernel, by decide +kernel⟩
abbrev n_law_cells : List Str := ["script", "many"]
theorem c_law_cells : FnScope n_law_cells ["script", "many"] (defScope s_law_cells) := ⟨rfl, rfl, rfl, by decide +kernel, rfl, by decide +kernel, by decide +kernel⟩
abbrev n_law_base : List Str := ["hand", "way"]
theorem c_law_base : FnScope n_law_base ["hand"] (defScope s_law_base) := ⟨rfl, rfl, rfl, by decide +kernel, rfl, by decide +kernel, by decide +kernel⟩
abbrev n_law_number : List Str := ["hand", "base", "most", "way", "power", "turn", "some"]
theorem c_law_number : FnScope n_law_number ["hand", "base", "most"] (defScope s_law_number) := ⟨rfl, rfl, rfl, by decide +kernel, rfl, by decide +kernel, by decide +kernel⟩
abbrev n_law_is : List Str := ["number", "base", "found", "left"]
theorem c_law_is : FnScope n_law_is ["number", "base"] (defScope s_law_is) := ⟨rfl, rfl, rfl, by decide +kernel, rfl, by decide +kernel, by decide +kernel⟩
abbrev n_law_great : List Str := ["hand", "k", "few", "most"]
theorem c_law_great : FnScope n_law_great ["hand", "k", "few", "most"] (defScope s_law_great) := ⟨rfl, rfl, rfl, by decide +kernel, rfl, by decide +kernel, by decide +kernel⟩
abbrev n_law_fewest : List Str := ["base", "most", "parts", "found", "left", "many", "ahead", "number", "part"]
theorem c_law_fewest : FnScope n_law_fewest ["base", "most"] (defScope s_law_fewest) := ⟨rfl, rfl, rfl, by decide +kernel, rfl, by decide +kernel, by decide +kernel⟩
abbrev n_law_wholes : List Str := ["found", "due", "one"]
theorem c_law_wholes : FnScope n_law_wholes ["found", "due"] (defScope s_law_wholes) := ⟨rfl, rfl, rfl, by decide +kernel, rfl, by decide +kernel, by decide +kernel⟩
abbrev n_law : List Str := ["script", "held", "k", "cell", "hand", "base", "bound", "due", "told", "one"]
theorem c_law : FnScope n_law ["script"] (defScope s_law) := ⟨rfl, rfl, rfl, by decide +kernel, rfl, by decide +kernel, by decide +kernel⟩
end Ms

namespace Ms
open PySem PySem.Spec PyProof.Rows L2 MS
/-! ### promises -/
/-- an int told, nothing that stood is changed -/
def TellI (H : Hp) (Q : VK) (n : Nat) : Prop := ∀ H', Same H H' → Q (.int (n : Int)) H'
/-- a new list told -/
def TellL (H : Hp) (Q : VK) (l : List Nat) : Prop := ∀ H' p, Same H H' → H p = none → H' p = some (.lst (vN l)) → Q (.ref p) H'
def Base (b : Nat) : Prop := 2 ≤ b ∧ b ≤ 36
def spWhole : Sp := fun vs H Q _ => ∃ i : Int, vs = [.int i] ∧ Q (.bl true) H
def spNeed : Sp := fun vs H Q _ => ∃ b : Nat, vs = [.int (b : Int)] ∧ Base b ∧ Q .non H
def spFigs : Sp := fun vs H Q _ => ∃ n b : Nat, vs = [.int (n : Int), .int (b : Int)] ∧ Base b ∧ n < 2 ^ 200 ∧ TellL H Q (figs b n)
def spPut (K : PySem.W.Frag) : Sp := fun vs H Q _ => ∃ (a : Addr) (l : List Nat) (b : Nat), vs = [.ref a, .int (b : Int)] ∧ Base b ∧ SqL K H a (vN l) ∧ TellI H Q (valB b l)
def spPow : Sp := fun vs H Q _ => ∃ b k : Nat, vs = [.int (b : Int), .int (k : Int)] ∧ Base b ∧ k ≤ 1000 ∧ TellI H Q (b ^ k)
theorem bl_t {p : Prop} [Decidable p] (h : p) : V.bl (decide p) = V.bl true := by rw [decide_eq_true h]
theorem bl_f {p : Prop} [Decidable p] (h : ¬ p) : V.bl (decide p) = V.bl false := by rw [decide_eq_false h]
theorem nd_bd {b n k : Nat} (hb : 2 ≤ b) (hk : 1 ≤ k) (h : n < 2 ^ k) : nd b n ≤ k := by
  by_cases hn : n = 0
  · subst hn
    rw [nd_lt (by omega)]
    exact hk
  · have l := nd_low hb n (by omega)
    have q : 2 ^ (nd b n - 1) ≤ b ^ (nd b n - 1) := Nat.pow_le_pow_left hb _
    have r : nd b n - 1 < k := (Nat.pow_lt_pow_iff_right (a := 2) (by omega)).mp (by omega)
    omega
section
variable {P : Program} {w : World} {K : PySem.W.Frag} {mg : Str → Option Value} {base : Heap}
theorem ok_is_whole (B : Bl mg) (D : Def K mg "is_whole" s_is_whole ["thing"]) : Use P w K mg base 1 "is_whole" ["thing"] spWhole := by
  refine D.ok c_is_whole (fun vs H Q E h => ?_) (fun f cdv A outer s H vs Q E hr h => ?_)
  · obtain ⟨i, rfl, _⟩ := h
    rfl
  obtain ⟨i, rfl, q⟩ := h
  refine ⟨_, (pss_one (ps_ret (pe_and (pe_callB call_isi (by rfl) B.isinstance PyProof.Rows.boot_isinstance (pa_cons (pv 0) (pa_cons (pe_bltn (v := .ty "int") (by rfl) B.int PyProof.Rows.boot_int rfl) pa_nil))) (pe_one (pe_not (pe_callB call_isi (by rfl) B.isinstance PyProof.Rows.boot_isinstance (pa_cons (pv 0) (pa_cons (pe_bltn (v := .ty "bool") (by rfl) B.bool PyProof.Rows.boot_bool rfl) pa_nil)))))))), ?_⟩
  refine ⟨_, rfl, _, _, _, _, true, rfl, .ty _, .base (.int _), kit_ty (by decide +kernel), true, rfl, iteT ?_⟩
  exact ⟨_, rfl, _, _, _, _, false, rfl, .ty _, .base (.int _), kit_ty (by decide +kernel), false, rfl, q⟩
theorem ok_need_base (D : Def K mg "need_base" s_need_base ["base"]) (UW : Use P w K mg base 1 "is_whole" ["thing"] spWhole) : Use P w K mg base 2 "need_base" ["base"] spNeed := by
  refine D.ok c_need_base (fun vs H Q E h => ?_) (fun f cdv A outer s H vs Q E hr h => ?_)
  · obtain ⟨i, rfl, _⟩ := h
    rfl
  obtain ⟨b, rfl, hb, q⟩ := h
  refine ⟨_, (pss_one (ps_if (PW.pt (pw_or (pt_not (pt_val (pcall UW hr (pa_cons (pv 0) pa_nil)))) (pw_or1 (pt_not (pt_chain op_le op_le pe_int (pv 0) pe_int))))) pss_never pss_nil)), ?_⟩
  refine ⟨_, rfl, _, rfl, true, rfl, iteF ?_⟩
  refine ⟨_, rfl, _, _, rfl, rfl, true, bl_t (by have := hb.1; omega), iteT ⟨_, _, rfl, rfl, true, bl_t (by have := hb.2; omega), iteF ?_⟩⟩
  exact q
theorem ok_figures_of (D : Def K mg "figures_of" s_figures_of ["number", "base"]) : Use P w K mg base 1 "figures_of" ["number", "base"] spFigs := by
  refine D.ok c_figures_of (fun vs H Q E h => ?_) (fun f cdv A outer s H vs Q E hr h => ?_)
  · obtain ⟨n, b, rfl, _⟩ := h
    rfl
  obtain ⟨n, b, rfl, ⟨hb, hb2⟩, hn, q⟩ := h
  refine ⟨_, (pss_cons (ps_set (i := 2) c_figures_of.nd rfl (.inl rfl) (pe_lst (pa_cons (pe_op nMod (pv 0) (pv 1)) pa_nil)))
      (pss_cons (ps_while PassesOwn.never (pt_cmpR op_ge (pv 0) (pv 1) (nomark _)) (pss_cons (ps_aug (i := 0) c_figures_of.nd rfl (.inl rfl) (pv 1) iDiv)
      (pss_one (ps_expr (pe_bm PySem.F.plainAttrs_list PySem.F.slot_list_append PySem.F.type_list_append mt_append (pv 2) (pa_cons (pe_op nMod (pv 0) (pv 1)) pa_nil))))))
      (pss_one (ps_ret (pe_revL (pv 2)))))), ?_⟩
  refine ⟨_, rfl, _, rfl, n, b, rfl, rfl, by omega, szl (by show 1 ≤ _; omega), fun p np => ?_⟩
  refine wh (fun m σ H' => ∃ L, digL b n = L ++ digL b m ∧ σ = [some (.int (m : Int)), some (.int (b : Int)), some (.ref p)] ∧ Same H H' ∧ H' p = some (.lst (vN (L ++ [m % b])))) n ⟨[], rfl, rfl, same_upd np, upd_same⟩ ?_
  rintro m σ H' ⟨L, hL, rfl, sm, hp⟩
  refine ⟨_, rfl, _, rfl, _, _, rfl, rfl, _, rfl, ite2 (fun c => ?_) (fun c => ?_)⟩
  · have c' : b ≤ m := by have := of_decide_eq_true c; omega
    have hd : digL b m = m % b :: digL b (m / b) := by rw [digL, if_pos ⟨hb, c'⟩]
    have hlen : L.length + 1 ≤ nd b n := by
      unfold nd figs
      rw [List.length_reverse, hL, hd, List.length_append, List.length_cons]
      omega
    have hnd := nd_bd hb (by omega) hn
    refine ⟨fun σ' H'' => ∃ L, digL b n = L ++ digL b (m / b) ∧ σ' = [some (.int ((m / b : Nat) : Int)), some (.int (b : Int)), some (.ref p)] ∧ Same H H'' ∧ H'' p = some (.lst (vN (L ++ [m / b % b]))), fun σ' H'' h => ⟨m / b, Nat.div_lt_self (by omega) (by omega), h⟩, ?_⟩
    refine ⟨_, rfl, _, rfl, m, b, rfl, rfl, ⟨by omega, by omega⟩, ?_⟩
    refine ⟨_, rfl, .inl ⟨rfl, _, SqL.of hp⟩, _, rfl, _, rfl, m / b, b, rfl, rfl, by omega, _, _, _, rfl, rfl, hp, szt ?_, ?_⟩
    · rw [vN_len, List.length_append]
      show L.length + 1 ≤ _
      omega
    · refine ⟨L ++ [m % b], by rw [hL, hd, List.append_assoc]; rfl, rfl, same_mut sm np, ?_⟩
      rw [upd_same, vN_app (L ++ [m % b])]
      rfl
  · have c' : m < b := by have := of_decide_eq_false (Bool.eq_false_iff.mpr c); omega
    have hd : digL b m = [m % b] := by rw [digL, if_neg (by omega)]
    refine ⟨_, rfl, _, _, rfl, SqL.of hp, fun r nr => ?_⟩
    refine q _ r (sm.trans (same_upd nr)) (sm.free nr) ?_
    rw [upd_same, ← vN_rev, ← hd, ← hL]
    rfl
theorem ok_put_together (D : Def K mg "put_together" s_put_together ["some", "base"]) : Use P w K mg base 1 "put_together" ["some", "base"] (spPut K) := by
  refine D.ok c_put_together (fun vs H Q E h => ?_) (fun f cdv A outer s H vs Q E hr h => ?_)
  · obtain ⟨a, l, b, rfl, _⟩ := h
    rfl
  obtain ⟨a, l, b, rfl, ⟨hb, hb2⟩, hS, q⟩ := h
  refine ⟨_, (pss_cons (ps_set (i := 2) c_put_together.nd rfl (.inl rfl) pe_int)
      (pss_cons (ps_for PassesOwn.never rfl (pi_list (pv 0)) (pg_name (i := 3) c_put_together.nd rfl (.inl rfl)) (pss_one (ps_set (i := 2) c_put_together.nd rfl (.inl rfl) (pe_op nAdd (pe_op nMul (pv 2) (pv 1)) (pv 3)))))
      (pss_one (ps_ret (pv 2))))), ?_⟩
  refine ⟨_, rfl, a, rfl, ⟨_, hS⟩, for_list (K := K) (a := a) (xs := vN l) (fun i σ H' => ∃ v, σ = [some (.ref a), some (.int (b : Int)), some (.int ((valB b (l.take i) : Nat) : Int)), v] ∧ H' = H) ⟨none, rfl, rfl⟩ ?_ ?_ ?_⟩
  · rintro i σ H' _ ⟨v, rfl, rfl⟩
    exact hS
  · rintro i x σ H' hx ⟨v, rfl, rfl⟩
    obtain ⟨n, hn, rfl⟩ := vN_of hx
    refine ⟨_, rfl, _, rfl, _, b, rfl, rfl, .inr (by omega), _, rfl, _, n, rfl, rfl, trivial, some (.int (n : Int)), ?_, rfl⟩
    have e : l.take (i + 1) = l.take i ++ [n] := by rw [List.take_add_one, hn]; rfl
    rw [e, valB_snoc]
    rfl
  · rintro σ H' ⟨v, rfl, rfl⟩
    rw [vN_len, List.take_length]
    exact ⟨_, rfl, q _ (Same.refl _)⟩
theorem ok_power_of (B : Bl mg) (D : Def K mg "power_of" s_power_of ["base", "many"]) : Use P w K mg base 1 "power_of" ["base", "many"] spPow := by
  refine D.ok c_power_of (fun vs H Q E h => ?_) (fun f cdv A outer s H vs Q E hr h => ?_)
  · obtain ⟨b, k, rfl, _⟩ := h
    rfl
  obtain ⟨b, k, rfl, ⟨hb, hb2⟩, hk, q⟩ := h
  refine ⟨_, (pss_cons (ps_set (i := 2) c_power_of.nd rfl (.inl rfl) pe_int)
      (pss_cons (ps_for PassesOwn.never rfl (pi_range1 (by rfl) B.range (pa_cons (pv 1) pa_nil)) (pg_name (i := 3) c_power_of.nd rfl (.inl rfl)) (pss_one (ps_aug (i := 2) c_power_of.nd rfl (.inl rfl) (pv 0) iMul)))
      (pss_one (ps_ret (pv 2))))), ?_⟩
  refine ⟨_, rfl, (k : Int), rfl, by omega, by omega, for_range (lo := 0) (n := (k : Int).toNat) (fun i σ H' => ∃ v, σ = [some (.int (b : Int)), some (.int (k : Int)), some (.int ((b ^ i : Nat) : Int)), v] ∧ H' = H) ⟨none, rfl, rfl⟩ ?_ ?_⟩
  · rintro i σ H' _ ⟨v, rfl, rfl⟩
    exact ⟨_, rfl, _, rfl, _, b, rfl, rfl, .inr (by omega), some (.int (0 + (i : Int))), by rw [Nat.pow_succ]; rfl, rfl⟩
  · rintro σ H' ⟨v, rfl, rfl⟩
    rw [Int.toNat_natCast]
    exact ⟨_, rfl, q _ (Same.refl _)⟩
end
end Ms


namespace Ms
open PySem PySem.Spec PyProof.Rows L2 MS
/-! ### bounds -/
theorem pow_mono2 {b k : Nat} (hb : 2 ≤ b) : 2 ^ k ≤ b ^ k := Nat.pow_le_pow_left hb k
theorem cum_low {b : Nat} (hb : 2 ≤ b) (t : Nat) : b ^ (t / 2) ≤ cum b (t + 1) := by
    show b ^ (t / 2) ≤ cum b t + cntP b (t + 1)
    have h : b ^ (t / 2) ≤ cntP b (t + 1) := by
      unfold cntP
      rw [Nat.add_sub_cancel]
      exact Nat.le_mul_of_pos_left _ (by omega)
    omega
theorem size_bd {b s B : Nat} (hb : 2 ≤ b) (hs : 1 ≤ s) (h : cum b (s - 1) < 2 ^ B) : s ≤ 2 * B + 2 := by
  by_cases h1 : s ≤ 2
  · omega
  · have q := cum_low hb (s - 2)
    have e : s - 2 + 1 = s - 1 := by omega
    rw [e] at q
    have q2 := pow_mono2 (k := (s - 2) / 2) hb
    have r : (s - 2) / 2 < B := (Nat.pow_lt_pow_iff_right (a := 2) (by omega)).mp (by omega)
    omega
theorem unit_bd {b s B : Nat} (hb : 2 ≤ b) (hb2 : b ≤ 36) (hs : 1 ≤ s) (h : cum b (s - 1) < 2 ^ B) : b ^ ((s - 1) / 2) ≤ 36 * 2 ^ B := by
  have p2 : 0 < 2 ^ B := Nat.pow_pos (by omega)
  by_cases h1 : s ≤ 2
  · have e : (s - 1) / 2 = 0 := by omega
    rw [e, Nat.pow_zero]
    omega
  · have q := cum_low hb (s - 2)
    have e : s - 2 + 1 = s - 1 := by omega
    rw [e] at q
    have m : b ^ ((s - 1) / 2) ≤ b ^ ((s - 2) / 2) * b := by
      rw [← Nat.pow_succ]
      exact Nat.pow_le_pow_right (by omega) (by omega)
    have m2 : b ^ ((s - 2) / 2) * b ≤ 2 ^ B * 36 := Nat.mul_le_mul (by omega) hb2
    omega
theorem half_le {b n : Nat} : half b n ≤ n := Nat.div_le_self _ _
theorem pals_len {b : Nat} (hb : 2 ≤ b) (n : Nat) : manyTo b n ≤ n := by
  have e := congrArg List.length (mirroredTo hb n)
  rw [List.length_map, List.length_range'] at e
  have l := List.length_filter_le (isPal b) (List.range' 1 n)
  rw [List.length_range'] at l
  unfold pals at e
  omega
theorem sum_cast (l : List Nat) : (l.map fun n : Nat => (n : Int)).sum = ((l.sum : Nat) : Int) := by
  induction l with
  | nil => rfl
  | cons a r ih =>
    rw [List.map_cons, List.sum_cons, List.sum_cons, ih]
    omega
theorem cum_sum (b : Nat) : ∀ t, ((List.range' 1 t).map (cntP b)).sum = cum b t
  | 0 => rfl
  | t + 1 => by
    rw [List.range'_concat, List.map_append, List.sum_append, cum_sum b t]
    show cum b t + (cntP b (1 + 1 * t) + 0) = cum b t + cntP b (t + 1)
    have e : 1 + 1 * t = t + 1 := by omega
    rw [e]
    omega
/-! ### promises -/
def spHalf : Sp := fun vs H Q _ => ∃ n b : Nat, vs = [.int (n : Int), .int (b : Int)] ∧ Base b ∧ n < 2 ^ 200 ∧
  ∀ H' p, Same H H' → H p = none → H' p = some (.tup [.int ((nd b n : Nat) : Int), .int ((half b n : Nat) : Int)]) → Q (.ref p) H'
def spMir : Sp := fun vs H Q _ => ∃ h s b : Nat, vs = [.int (h : Int), .int (s : Int), .int (b : Int)] ∧ Base b ∧ h < 2 ^ 200 ∧ TellI H Q (mir b h s)
def spSize : Sp := fun vs H Q _ => ∃ s b : Nat, vs = [.int (s : Int), .int (b : Int)] ∧ Base b ∧ 1 ≤ s ∧ s ≤ 1000 ∧ TellI H Q (cntP b s)
def spMany : Sp := fun vs H Q _ => ∃ n b : Nat, vs = [.int (n : Int), .int (b : Int)] ∧ Base b ∧ n < 2 ^ 200 ∧ TellI H Q (manyTo b n)
def spAt : Sp := fun vs H Q _ => ∃ p b : Nat, vs = [.int (p : Int), .int (b : Int)] ∧ Base b ∧ p < 2 ^ 64 ∧ TellI H Q (atP b p)
def spMirTo : Sp := fun vs H Q _ => ∃ n b : Nat, vs = [.int (n : Int), .int (b : Int)] ∧ Base b ∧ n ≤ 1000000 ∧ TellL H Q (pals b n)
section
variable {P : Program} {w : World} {K : PySem.W.Frag} {mg : Str → Option Value} {base : Heap}
theorem ok_half_of (B : Bl mg) (D : Def K mg "half_of" s_half_of ["number", "base"]) (UF : Use P w K mg base 1 "figures_of" ["number", "base"] spFigs) (UP : Use P w K mg base 1 "put_together" ["some", "base"] (spPut K)) :
    Use P w K mg base 2 "half_of" ["number", "base"] spHalf := by
  refine D.ok c_half_of (fun vs H Q E h => ?_) (fun f cdv A outer s H vs Q E hr h => ?_)
  · obtain ⟨n, b, rfl, _⟩ := h
    rfl
  obtain ⟨n, b, rfl, hB, hn, q⟩ := h
  have hb := hB.1
  refine ⟨_, (pss_cons (ps_set (i := 2) c_half_of.nd rfl (.inl rfl) (pcall UF hr (pa_cons (pv 0) (pa_cons (pv 1) pa_nil))))
      (pss_one (ps_ret (pe_tup (pa_cons (pe_callB call_len_seq (by rfl) B.len PySem.boot_len (pa_cons (pv 2) pa_nil)) (pa_cons (pcall UP hr (pa_cons (pe_slice sl_list (pv 2) po_none (po_some (pe_op nDiv (pe_op nAdd (pe_callB call_len_seq (by rfl) B.len PySem.boot_len (pa_cons (pv 2) pa_nil)) pe_int) pe_int))) (pa_cons (pv 1) pa_nil))) pa_nil)))))), ?_⟩
  refine ⟨_, rfl, _, rfl, n, b, rfl, hB, hn, fun H1 p s1 np hp => ?_⟩
  refine ⟨_, rfl, p, _, rfl, .inl (SqL.of hp), ?_⟩
  refine ⟨_, rfl, _, rfl, p, _, rfl, .inl (SqL.of hp), (figs b n).length, 1, by rw [vN_len], rfl, trivial, (figs b n).length + 1, 2, rfl, rfl, ⟨by omega, by omega⟩, _, rfl, p, _, rfl, SqL.of hp, fun c nc => ?_⟩
  refine ⟨_, rfl, c, (figs b n).take ((nd b n + 1) / 2), b, rfl, hB, SqL.of ?_, fun H2 s2 => ?_⟩
  · rw [upd_same, cut_to, vN_take]
    rfl
  rw [half_is hb]
  refine ⟨by show 2 ≤ sizeLine; decide, fun t nt => ?_⟩
  refine q _ t (s1.trans ((same_upd nc).trans (s2.trans (same_upd nt)))) (s1.free ((same_upd nc).free (s2.free nt))) ?_
  rw [upd_same, vN_len]
  rfl
theorem ok_mirror_of (D : Def K mg "mirror_of" s_mirror_of ["half", "size", "base"]) (UF : Use P w K mg base 1 "figures_of" ["number", "base"] spFigs) (UP : Use P w K mg base 1 "put_together" ["some", "base"] (spPut K)) :
    Use P w K mg base 2 "mirror_of" ["half", "size", "base"] spMir := by
  refine D.ok c_mirror_of (fun vs H Q E h => ?_) (fun f cdv A outer s H vs Q E hr h => ?_)
  · obtain ⟨n, s, b, rfl, _⟩ := h
    rfl
  obtain ⟨h, s, b, rfl, hB, hn, q⟩ := h
  have hb := hB.1
  refine ⟨_, (pss_cons (ps_set (i := 3) c_mirror_of.nd rfl (.inl rfl) (pcall UF hr (pa_cons (pv 0) (pa_cons (pv 2) pa_nil))))
      (pss_one (ps_ret (pcall UP hr (pa_cons (pe_op op_cat (pv 3) (pe_revL (pe_slice sl_list (pv 3) po_none (po_some (pe_op nDiv (pv 1) pe_int))))) (pa_cons (pv 2) pa_nil)))))), ?_⟩
  refine ⟨_, rfl, _, rfl, h, b, rfl, hB, hn, fun H1 p s1 np hp => ?_⟩
  refine ⟨_, rfl, _, rfl, _, rfl, s, 2, rfl, rfl, ⟨by omega, by omega⟩, _, rfl, p, _, rfl, SqL.of hp, fun c nc => ?_⟩
  refine ⟨c, _, rfl, SqL.of upd_same, fun r nr => ?_⟩
  have s2 : Same H1 (upd H1 c (.lst (cutV (vN (figs b h)) none (some ((s / 2 : Nat) : Int))))) := same_upd nc
  have s3 := s2.trans (same_upd (o := .lst (cutV (vN (figs b h)) none (some ((s / 2 : Nat) : Int))).reverse) nr)
  refine ⟨p, r, _, _, rfl, rfl, s3 _ _ hp, upd_same, szl ?_, fun t nt => ?_⟩
  · have l1 := nd_bd hb (k := 200) (by omega) hn
    unfold nd at l1
    rw [List.length_reverse, cut_to, List.length_take, vN_len]
    omega
  · refine ⟨_, rfl, t, figs b h ++ ((figs b h).take (s / 2)).reverse, b, rfl, hB, SqL.of ?_, fun H2 s4 => ?_⟩
    · rw [upd_same, cut_to, vN_app, vN_rev, vN_take]
    · exact q _ (s1.trans (s3.trans ((same_upd nt).trans s4)))
theorem ok_many_of_size (D : Def K mg "many_of_size" s_many_of_size ["size", "base"]) (UP : Use P w K mg base 1 "power_of" ["base", "many"] spPow) : Use P w K mg base 2 "many_of_size" ["size", "base"] spSize := by
  refine D.ok c_many_of_size (fun vs H Q E h => ?_) (fun f cdv A outer s H vs Q E hr h => ?_)
  · obtain ⟨s, b, rfl, _⟩ := h
    rfl
  obtain ⟨s, b, rfl, hB, h1, h2, q⟩ := h
  have hb := hB.1
  have hb2 := hB.2
  refine ⟨_, (pss_one (ps_ret (pe_op nMul (pe_op nSub (pv 1) pe_int) (pcall UP hr (pa_cons (pv 1) (pa_cons (pe_op nDiv (pe_op nSub (pv 0) pe_int) pe_int) pa_nil)))))), ?_⟩
  refine ⟨_, rfl, b, 1, rfl, rfl, by omega, _, rfl, _, rfl, s, 1, rfl, rfl, h1, s - 1, 2, rfl, rfl, ⟨by omega, by omega⟩, b, (s - 1) / 2, rfl, hB, by omega, fun H1 s1 => ?_⟩
  exact ⟨b - 1, _, rfl, rfl, .inl (by omega), q _ s1⟩
theorem ok_many_to (B : Bl mg) (D : Def K mg "many_to" s_many_to ["number", "base"]) (UN : Use P w K mg base 2 "need_base" ["base"] spNeed) (UH : Use P w K mg base 2 "half_of" ["number", "base"] spHalf)
    (UP : Use P w K mg base 1 "power_of" ["base", "many"] spPow) (UM : Use P w K mg base 2 "mirror_of" ["half", "size", "base"] spMir) (US : Use P w K mg base 2 "many_of_size" ["size", "base"] spSize) : Use P w K mg base 3 "many_to" ["number", "base"] spMany := by
  refine D.ok c_many_to (fun vs H Q E h => ?_) (fun f cdv A outer s H vs Q E hr h => ?_)
  · obtain ⟨n, b, rfl, _⟩ := h
    rfl
  obtain ⟨n, b, rfl, hB, hn, q⟩ := h
  have hb := hB.1
  have hb2 := hB.2
  refine ⟨_, (pss_cons (ps_expr (pcall UN hr (pa_cons (pv 1) pa_nil)))
      (pss_cons (ps_if (pt_cmpR op_eq (pv 0) pe_int (nomark _)) (pss_one (ps_ret pe_int)) pss_nil)
      (pss_cons (ps_asg (pcall UH hr (pa_cons (pv 0) (pa_cons (pv 1) pa_nil))) (pg_tup (by rfl) (pgs_cons (pg_name (i := 2) c_many_to.nd rfl (.inl rfl)) (pgs_cons (pg_name (i := 3) c_many_to.nd rfl (.inl rfl)) pgs_nil))))
      (pss_cons (ps_set (i := 4) c_many_to.nd rfl (.inl rfl) (pe_op nAdd (pe_op nSub (pv 3) (pcall UP hr (pa_cons (pv 1) (pa_cons (pe_op nDiv (pe_op nSub (pv 2) pe_int) pe_int) pa_nil)))) (pe_callTy call_int1 (by rfl) B.int (by decide +kernel) (pa_cons (pe_cmpR op_le (pcall UM hr (pa_cons (pv 3) (pa_cons (pv 2) (pa_cons (pv 1) pa_nil)))) (pv 0) (nomark _)) pa_nil))))
      (pss_one (ps_ret (pe_op nAdd (pv 4) (pe_callB (cr_sum rfl) (by rfl) B.sum (by decide +kernel) (pa_cons (pe_lc (own := [("lesser", 5)]) (g := gName 5) (tt := tYes) rfl c_many_to.nd (pi_range2 (by rfl) B.range (pa_cons pe_int (pa_cons (pv 2) pa_nil))) (blkOk_by (N := n_many_to) (sc := defScope s_many_to) (by decide +kernel)) (fun _ _ _ _ _ => pg_name (i := 5) c_many_to.nd rfl (Or.inl rfl)) (fun _ _ _ _ _ => pts_nil) (fun _ _ _ _ _ => (pcall US hr (pa_cons (pv 5) (pa_cons (pv 1) pa_nil))))) pa_nil))))))))), ?_⟩
  refine ⟨_, rfl, b, rfl, hB, ?_⟩
  refine ⟨_, rfl, rfl, _, rfl, ite2 (fun c => ?_) (fun c => ?_)⟩
  · have e : (n : Int) = 0 := V.int.inj (of_decide_eq_true c)
    have e2 : manyTo b n = 0 := by unfold manyTo; rw [if_pos (by omega)]
    have q' := q H (Same.refl _)
    rw [e2] at q'
    exact q'
  · have n0 : 1 ≤ n := by
      have e : ¬ V.int (n : Int) = V.int 0 := of_decide_eq_false (Bool.eq_false_iff.mpr c)
      by_cases z : n = 0
      · subst z
        exact absurd rfl e
      · omega
    refine ⟨_, rfl, _, rfl, n, b, rfl, hB, hn, fun H1 p s1 np hp => ?_⟩
    refine ⟨p, _, rfl, SqT.of hp, rfl, _, _, rfl, _, _, rfl, rfl, ?_⟩
    have hp1 := nd_pos (b := b) (n := n) hb
    have hs := nd_bd hb (k := 200) (by omega) hn
    have hr' := half_range (b := b) hb n0
    have hh : half b n < 2 ^ 200 := Nat.lt_of_le_of_lt half_le hn
    refine ⟨_, rfl, _, rfl, _, rfl, nd b n, 1, rfl, rfl, hp1, nd b n - 1, 2, rfl, rfl, ⟨by omega, by omega⟩, b, (nd b n - 1) / 2, rfl, hB, by omega, fun H2 s2 => ?_⟩
    refine ⟨half b n, b ^ ((nd b n - 1) / 2), rfl, rfl, hr'.1, ?_⟩
    refine ⟨_, rfl, _, rfl, _, rfl, half b n, nd b n, b, rfl, hB, hh, fun H3 s3 => ?_⟩
    refine ⟨_, rfl, _, _, rfl, rfl, .inr ⟨_, rfl, ?_⟩⟩
    refine ⟨half b n - b ^ ((nd b n - 1) / 2), if mir b (half b n) (nd b n) ≤ n then 1 else 0, rfl, ?_, trivial, ?_⟩
    · by_cases z : mir b (half b n) (nd b n) ≤ n
      · rw [if_pos z, decide_eq_true (by omega)]
        rfl
      · rw [if_neg z, decide_eq_false (by omega)]
        rfl
    refine ⟨_, rfl, _, rfl, 1, (nd b n : Int), rfl, ⟨by omega, by omega, by omega, by omega⟩, fun D nD => ?_⟩
    refine lc_range (lo := 1) (n := ((nd b n : Int) - 1).toNat) (fun i H' => Same H3 H' ∧ H' D = some (.lst (vN ((List.range' 1 i).map (cntP b))))) ⟨same_upd nD, upd_same⟩ ?_ ?_
    · rintro i H' hi ⟨sm, hD⟩
      refine ⟨rfl, yes ?_⟩
      refine ⟨_, rfl, _, rfl, 1 + i, b, ?_, hB, by omega, by omega, fun H4 s4 => ?_⟩
      · have e : ((1 + i : Nat) : Int) = 1 + (i : Int) := by omega
        rw [e]
        rfl
      refine ⟨_, s4 _ _ hD, szt ?_, ?_, ?_⟩
      · rw [vN_len, List.length_map, List.length_range']
        omega
      · exact same_mut (sm.trans s4) nD
      · rw [upd_same, List.range'_concat, List.map_append, vN_app, Nat.one_mul]
        rfl
    · rintro H' ⟨sm, hD⟩
      refine ⟨D, _, rfl, SqL.of (by rw [hD, vN_int]), ?_⟩
      refine ⟨_, cum b (nd b n - 1), rfl, ?_, trivial, ?_⟩
      · rw [sum_cast]
        have e : ((nd b n : Int) - 1).toNat = nd b n - 1 := by omega
        rw [e, cum_sum]
      · have e : manyTo b n = (half b n - b ^ ((nd b n - 1) / 2) + if mir b (half b n) (nd b n) ≤ n then 1 else 0) + cum b (nd b n - 1) := by
          unfold manyTo
          rw [if_neg (by omega)]
        have q' := q _ (s1.trans (s2.trans (s3.trans sm)))
        rw [e] at q'
        exact q'
end
end Ms


namespace Ms
open PySem PySem.Spec PyProof.Rows L2 MS
section
variable {P : Program} {w : World} {K : PySem.W.Frag} {mg : Str → Option Value} {base : Heap}
theorem ok_mirrored_at (D : Def K mg "mirrored_at" s_mirrored_at ["place", "base"]) (UN : Use P w K mg base 2 "need_base" ["base"] spNeed) (UP : Use P w K mg base 1 "power_of" ["base", "many"] spPow)
    (UM : Use P w K mg base 2 "mirror_of" ["half", "size", "base"] spMir) (US : Use P w K mg base 2 "many_of_size" ["size", "base"] spSize) : Use P w K mg base 3 "mirrored_at" ["place", "base"] spAt := by
  refine D.ok c_mirrored_at (fun vs H Q E h => ?_) (fun f cdv A outer s H vs Q E hr h => ?_)
  · obtain ⟨p, b, rfl, _⟩ := h
    rfl
  obtain ⟨p, b, rfl, hB, hp, q⟩ := h
  have hb := hB.1
  have hb2 := hB.2
  refine ⟨_, (pss_cons (ps_expr (pcall UN hr (pa_cons (pv 1) pa_nil)))
      (pss_cons (ps_if (pt_cmpR op_eq (pv 0) pe_int (nomark _)) (pss_one (ps_ret pe_int)) pss_nil)
      (pss_cons (ps_set (i := 2) c_mirrored_at.nd rfl (.inl rfl) (pe_op nSub (pv 0) pe_int))
      (pss_cons (ps_set (i := 3) c_mirrored_at.nd rfl (.inl rfl) pe_int)
      (pss_cons (ps_while PassesOwn.never (pt_cmpR op_ge (pv 2) (pcall US hr (pa_cons (pv 3) (pa_cons (pv 1) pa_nil))) (nomark _)) (pss_cons (ps_aug (i := 2) c_mirrored_at.nd rfl (.inl rfl) (pcall US hr (pa_cons (pv 3) (pa_cons (pv 1) pa_nil))) iSub)
      (pss_one (ps_aug (i := 3) c_mirrored_at.nd rfl (.inl rfl) pe_int iAdd))))
      (pss_one (ps_ret (pcall UM hr (pa_cons (pe_op nAdd (pcall UP hr (pa_cons (pv 1) (pa_cons (pe_op nDiv (pe_op nSub (pv 3) pe_int) pe_int) pa_nil))) (pv 2)) (pa_cons (pv 3) (pa_cons (pv 1) pa_nil))))))))))), ?_⟩
  refine ⟨_, rfl, b, rfl, hB, ?_⟩
  refine ⟨_, rfl, rfl, _, rfl, ite2 (fun c => ?_) (fun c => ?_)⟩
  · have e : (p : Int) = 0 := V.int.inj (of_decide_eq_true c)
    have e2 : atP b p = 0 := by unfold atP; rw [if_pos (by omega)]
    have q' := q H (Same.refl _)
    rw [e2] at q'
    exact q'
  · have p0 : 1 ≤ p := by
      have e : ¬ V.int (p : Int) = V.int 0 := of_decide_eq_false (Bool.eq_false_iff.mpr c)
      by_cases z : p = 0
      · subst z
        exact absurd rfl e
      · omega
    refine ⟨_, rfl, p, 1, rfl, rfl, p0, ?_⟩
    have c0 : cum b (1 - 1) = 0 := rfl
    refine wh (fun m σ H' => ∃ z, 1 ≤ z ∧ cum b (z - 1) + m = p - 1 ∧ atLoop b (p - 1) 1 = atLoop b m z ∧ σ = [some (.int (p : Int)), some (.int (b : Int)), some (.int (m : Int)), some (.int (z : Int))] ∧ Same H H') (p - 1) ⟨1, Nat.le_refl _, by omega, rfl, rfl, Same.refl _⟩ ?_
    rintro m σ H' ⟨z, hz, hcum, hat, rfl, sm⟩
    have hz2 := size_bd (B := 64) hb hz (by omega)
    refine ⟨_, rfl, _, rfl, _, rfl, z, b, rfl, hB, hz, by omega, fun H1 s1 => ?_⟩
    refine ⟨_, _, rfl, rfl, _, rfl, ite2 (fun c => ?_) (fun c => ?_)⟩
    · have c' : cntP b z ≤ m := by have := of_decide_eq_true c; omega
      have cp := cntP_pos hb z
      refine ⟨fun σ' H'' => ∃ z', 1 ≤ z' ∧ cum b (z' - 1) + (m - cntP b z) = p - 1 ∧ atLoop b (p - 1) 1 = atLoop b (m - cntP b z) z' ∧ σ' = [some (.int (p : Int)), some (.int (b : Int)), some (.int ((m - cntP b z : Nat) : Int)), some (.int (z' : Int))] ∧ Same H H'', fun σ' H'' h => ⟨m - cntP b z, by omega, h⟩, ?_⟩
      refine ⟨_, rfl, _, rfl, _, rfl, z, b, rfl, hB, hz, by omega, fun H2 s2 => ?_⟩
      refine ⟨m, cntP b z, rfl, rfl, c', ?_⟩
      refine ⟨_, rfl, z, 1, rfl, rfl, trivial, z + 1, by omega, ?_, ?_, rfl, sm.trans (s1.trans s2)⟩
      · obtain ⟨t, rfl⟩ : ∃ t, z = t + 1 := ⟨z - 1, by omega⟩
        show cum b (t + 1 + 1 - 1) + _ = _
        rw [Nat.add_sub_cancel]
        show cum b t + cntP b (t + 1) + _ = _
        rw [Nat.add_sub_cancel] at hcum
        omega
      · rw [hat, atLoop, if_pos ⟨hb, c', cp⟩]
    · have c' : m < cntP b z := by have := of_decide_eq_false (Bool.eq_false_iff.mpr c); omega
      have e : atLoop b (p - 1) 1 = (z, m) := by rw [hat, atLoop, if_neg (by omega)]
      have ub := unit_bd (B := 64) hb hb2 hz (by omega)
      refine ⟨_, rfl, _, rfl, z, 1, rfl, rfl, hz, z - 1, 2, rfl, rfl, ⟨by omega, by omega⟩, b, (z - 1) / 2, rfl, hB, by omega, fun H2 s2 => ?_⟩
      refine ⟨_, rfl, b ^ ((z - 1) / 2), m, rfl, rfl, trivial, ?_⟩
      refine ⟨_, rfl, _, rfl, b ^ ((z - 1) / 2) + m, z, b, rfl, hB, by omega, fun H3 s3 => ?_⟩
      have q' := q H3 (sm.trans (s1.trans (s2.trans s3)))
      have e2 : atP b p = mir b (b ^ ((z - 1) / 2) + m) z := by
        unfold atP
        rw [if_neg (by omega), e]
      rw [e2] at q'
      exact q'
theorem ok_mirrored_to (B : Bl mg) (D : Def K mg "mirrored_to" s_mirrored_to ["number", "base"]) (UA : Use P w K mg base 3 "mirrored_at" ["place", "base"] spAt) (UM : Use P w K mg base 3 "many_to" ["number", "base"] spMany) :
    Use P w K mg base 4 "mirrored_to" ["number", "base"] spMirTo := by
  refine D.ok c_mirrored_to (fun vs H Q E h => ?_) (fun f cdv A outer s H vs Q E hr h => ?_)
  · obtain ⟨n, b, rfl, _⟩ := h
    rfl
  obtain ⟨n, b, rfl, hB, hn, q⟩ := h
  have hb := hB.1
  have hl := pals_len hb n
  refine ⟨_, (pss_one (ps_ret (pe_lc (own := [("place", 2)]) (g := gName 2) (tt := tYes) rfl c_mirrored_to.nd (pi_range2 (by rfl) B.range (pa_cons pe_int (pa_cons (pe_op nAdd (pcall UM hr (pa_cons (pv 0) (pa_cons (pv 1) pa_nil))) pe_int) pa_nil))) (blkOk_by (N := n_mirrored_to) (sc := defScope s_mirrored_to) (by decide +kernel)) (fun _ _ _ _ _ => pg_name (i := 2) c_mirrored_to.nd rfl (Or.inl rfl)) (fun _ _ _ _ _ => pts_nil) (fun _ _ _ _ _ => (pcall UA hr (pa_cons (pv 2) (pa_cons (pv 1) pa_nil))))))), ?_⟩
  refine ⟨_, rfl, _, rfl, n, b, rfl, hB, by omega, fun H1 s1 => ?_⟩
  refine ⟨manyTo b n, 1, rfl, rfl, trivial, 1, ((manyTo b n + 1 : Nat) : Int), rfl, ⟨by omega, by omega, by omega, by omega⟩, fun D nD => ?_⟩
  refine lc_range (lo := 1) (n := (((manyTo b n + 1 : Nat) : Int) - 1).toNat) (fun i H' => Same H1 H' ∧ H' D = some (.lst (vN ((List.range' 1 i).map (atP b))))) ⟨same_upd nD, upd_same⟩ ?_ ?_
  · rintro i H' hi ⟨sm, hD⟩
    refine ⟨rfl, yes ?_⟩
    refine ⟨_, rfl, _, rfl, 1 + i, b, ?_, hB, by omega, fun H4 s4 => ?_⟩
    · have e : ((1 + i : Nat) : Int) = 1 + (i : Int) := by omega
      rw [e]
      rfl
    refine ⟨_, s4 _ _ hD, szt ?_, ?_, ?_⟩
    · rw [vN_len, List.length_map, List.length_range']
      omega
    · exact same_mut (sm.trans s4) nD
    · rw [upd_same, List.range'_concat, List.map_append, vN_app, Nat.one_mul]
      rfl
  · rintro H' ⟨sm, hD⟩
    have e : (((manyTo b n + 1 : Nat) : Int) - 1).toNat = manyTo b n := by omega
    rw [e, mirroredTo hb] at hD
    exact q H' D (s1.trans sm) (s1.free nD) hD
end
end Ms


namespace Ms
open PySem PySem.Spec PyProof.Rows L2 MS
def spTable : Sp := fun vs H Q _ => ∃ n b : Nat, vs = [.int (n : Int), .int (b : Int)] ∧ Base b ∧ n ≤ 1000000 ∧ TellL H Q (tab b n)
theorem vn_take {l : List Nat} {i n : Nat} (h : l[i]? = some n) : l.take (i + 1) = l.take i ++ [n] := by
  rw [List.take_add_one, h]
  rfl
section
variable {P : Program} {w : World} {K : PySem.W.Frag} {mg : Str → Option Value} {base : Heap}
theorem ok_table (B : Bl mg) (D : Def K mg "table" s_table ["bound", "base"]) (UM : Use P w K mg base 4 "mirrored_to" ["number", "base"] spMirTo) : Use P w K mg base 5 "table" ["bound", "base"] spTable := by
  refine D.ok c_table (fun vs H Q E h => ?_) (fun f cdv A outer s H vs Q E hr h => ?_)
  · obtain ⟨n, b, rfl, _⟩ := h
    rfl
  obtain ⟨n, b, rfl, hB, hn, q⟩ := h
  have hb := hB.1
  refine ⟨_, (pss_cons (ps_set (i := 2) c_table.nd rfl (.inl rfl) (pcall UM hr (pa_cons (pv 0) (pa_cons (pv 1) pa_nil))))
      (pss_cons (ps_set (i := 3) c_table.nd rfl (.inr rfl) (pe_lst (pa_cons pe_int pa_nil)))
      (pss_cons (ps_for PassesOwn.never rfl (pi_range2 (by rfl) B.range (pa_cons pe_int (pa_cons (pe_op nAdd (pv 0) pe_int) pa_nil))) (pg_name (i := 4) c_table.nd rfl (.inr rfl)) (pss_one (ps_expr (pe_bm PySem.F.plainAttrs_list PySem.F.slot_list_append PySem.F.type_list_append mt_append (pv 3) (pa_cons (pe_op nAdd pe_int (pe_callB (cr_min rfl) (by rfl) B.min (by decide +kernel) (pa_cons (pe_lc (own := [("part", 5)]) (g := gName 5) rfl c_table.nd (pi_list (pv 2)) (blkOk_by (N := n_table) (sc := defScope s_table) (by decide +kernel)) (fun _ _ _ _ _ => pg_name (i := 5) c_table.nd rfl (Or.inl rfl)) (fun _ _ _ _ _ => pts_one (pt_cmpR op_le (pv 5) (pv 4) (nomark _))) (fun _ _ _ _ _ => (pe_ix (r := rIxL K) ix_list (pv 3) (pe_op nSub (pv 4) (pv 5)) (fun _ _ => rfl)))) pa_nil))) pa_nil)))))
      (pss_one (ps_ret (pv 3)))))), ?_⟩
  refine ⟨_, rfl, _, rfl, n, b, rfl, hB, hn, fun H1 a s1 na ha => ?_⟩
  refine ⟨szl (by show 1 ≤ _; omega), fun p np => ?_⟩
  have nap : a ≠ p := ne_of_none ha np
  refine ⟨_, rfl, n, 1, rfl, rfl, trivial, 1, ((n + 1 : Nat) : Int), rfl, ⟨by omega, by omega, by omega, by omega⟩, ?_⟩
  refine forN (lo := 1) (m := n) (by omega) (fun i σ H' => ∃ v, σ = [some (.int (n : Int)), some (.int (b : Int)), some (.ref a), some (.ref p), v, none] ∧ Same H1 H' ∧ H' p = some (.lst (vN (tab b i)))) ⟨none, rfl, same_upd np, ?_⟩ ?_ ?_
  · rw [upd_same, tab_zero]
    rfl
  · rintro i σ H' hi ⟨v, rfl, sm, hp⟩
    refine ⟨_, rfl, .inl ⟨rfl, _, SqL.of hp⟩, ?_⟩
    refine ⟨_, rfl, a, rfl, ⟨_, SqL.of (sm _ _ ha)⟩, fun D nD => ?_⟩
    refine lc_list (K := K) (a := a) (xs := vN (pals b n)) (fun j H2 => Same H' H2 ∧ H2 D = some (.lst (vN ((((pals b n).take j).filter fun p => decide (p ≤ 1 + i)).map fun p => need b (1 + i - p))))) ⟨same_upd nD, upd_same⟩ (fun j H2 _ h2 => SqL.of (h2.1 _ _ (sm _ _ ha))) ?_ ?_
    · rintro j x H2 hx ⟨s2, hD⟩
      obtain ⟨z, hz, rfl⟩ := vN_of hx
      have zp := pals_mem.mp (List.mem_of_getElem? hz)
      refine ⟨rfl, _, rfl, _, rfl, _, _, rfl, rfl, _, rfl, ite2 (fun c => ?_) (fun c => ?_)⟩
      · have c' : z ≤ 1 + i := by have := of_decide_eq_true c; omega
        refine ⟨_, rfl, _, rfl, _, rfl, 1 + i, z, rfl, rfl, c', p, _, _, .int ((need b (1 + i - z) : Nat) : Int), rfl, rfl, SqL.of (s2 _ _ hp), atI_nat (vN_get (tab_get (by show 1 + i - z ≤ i; omega))), ?_⟩
        refine ⟨_, hD, szt ?_, same_mut s2 nD, ?_⟩
        · rw [vN_len, List.length_map]
          have l1 := List.length_filter_le (fun p => decide (p ≤ 1 + i)) ((pals b n).take j)
          have l2 := pals_bd (b := b) n
          rw [List.length_take] at l1
          omega
        · rw [upd_same, vn_take hz, List.filter_append, List.filter_cons, if_pos (decide_eq_true c'), List.map_append, vN_app]
          rfl
      · have c' : ¬ z ≤ 1 + i := by have := of_decide_eq_false (Bool.eq_false_iff.mpr c); omega
        refine ⟨s2, ?_⟩
        rw [hD, vn_take hz, List.filter_append, List.filter_cons, if_neg (by rw [decide_eq_false c']; decide), List.filter_nil, List.append_nil]
    · rintro H2 ⟨s2, hD⟩
      rw [vN_len, List.take_length, pals_filter (by omega)] at hD
      rw [vN_int] at hD
      refine ⟨D, _, rfl, SqL.of hD, ?_, fun m hm hle => ?_⟩
      · rw [List.length_map, List.length_map]
        exact List.length_pos_of_mem (pals_one hb (by omega))
      · obtain ⟨k, hk, rfl⟩ := List.mem_map.mp hm
        have e : need b (1 + i) = 1 + k := by
          rw [need_eq (by omega), minL_eq hk fun y hy => ?_]
          have := hle (y : Int) (List.mem_map.mpr ⟨y, hy, rfl⟩)
          omega
        refine ⟨1, k, rfl, rfl, trivial, p, _, _, rfl, rfl, s2 _ _ hp, szt ?_, some (.int ((1 + i : Nat) : Int)), rfl, ?_, ?_⟩
        · rw [vN_len, tab_len]
          omega
        · exact same_mut (sm.trans s2) np
        · have e1 : need b (i + 1) = 1 + k := by rw [Nat.add_comm i 1]; exact e
          rw [upd_same, tab_succ, vN_app, e1]
          rfl
  · rintro σ H' ⟨v, rfl, sm, hp⟩
    exact ⟨_, rfl, q _ p (s1.trans sm) (s1.free np) hp⟩
end
end Ms


namespace Ms
open PySem PySem.Spec PyProof.Rows L2 MS
/-- the law's hand: two numbers, the second below 2 ^ 31 -/
def Hand (p : Addr) (H : Hp) : Prop := ∃ d s : Nat, s < 2147483648 ∧ H p = some (.lst [.int (d : Int), .int (s : Int)])
theorem Hand.mem {p : Addr} {H H' : Hp} (h : Hand p H) (e : H' p = H p) : Hand p H' := by
  obtain ⟨d, s, hs, q⟩ := h
  exact ⟨d, s, hs, e.trans q⟩
def spLHand : Sp := fun vs H Q _ => ∃ (c : Int) (k : Nat), vs = [.int c, .int (k : Int)] ∧ k ≤ 100 ∧ ∀ H' p, Same H H' → H p = none → Hand p H' → Q (.ref p) H'
def spLDraw : Sp := fun vs H Q _ => ∃ (p : Addr) (l : Nat), vs = [.ref p, .int (l : Int)] ∧ 1 ≤ l ∧ l < 1073741824 ∧ Hand p H ∧ ∀ H' r, But p H H' → Hand p H' → r < l → Q (.int ((r : Nat) : Int)) H'
def spLBase : Sp := fun vs H Q _ => ∃ p : Addr, vs = [.ref p] ∧ Hand p H ∧ ∀ H' b, But p H H' → Hand p H' → Base b → Q (.int ((b : Nat) : Int)) H'
def spLNumber : Sp := fun vs H Q _ => ∃ (p : Addr) (b m : Nat), vs = [.ref p, .int (b : Int), .int (m : Int)] ∧ Base b ∧ 40 ≤ m ∧ m ≤ 1000000 ∧ Hand p H ∧ ∀ H' n, But p H H' → Hand p H' → n ≤ m → Q (.int ((n : Nat) : Int)) H'
def spLGreat : Sp := fun vs H Q _ => ∃ (p : Addr) (k a m : Nat), vs = [.ref p, .int (k : Int), .int (a : Int), .int (m : Int)] ∧ Hand p H ∧ ∀ H' n, But p H H' → Hand p H' → (n = a ∨ n = m) → Q (.int ((n : Nat) : Int)) H'
section
variable {P : Program} {w : World} {K : PySem.W.Frag} {mg : Str → Option Value} {base : Heap}
theorem ok_law_base (B : Bl mg) (D : Def K mg "_law_base" s_law_base ["hand"]) (UD : Use P w K mg base 1 "_law_draw" ["hand", "limit"] spLDraw) : Use P w K mg base 2 "_law_base" ["hand"] spLBase := by
  refine D.ok c_law_base (fun vs H Q E h => ?_) (fun f cdv A outer s H vs Q E hr h => ?_)
  · obtain ⟨p, rfl, _⟩ := h
    rfl
  obtain ⟨p, rfl, hh, q⟩ := h
  refine ⟨_, (pss_cons (ps_set (i := 1) c_law_base.nd rfl (.inl rfl) (pcall UD hr (pa_cons (pv 0) (pa_cons pe_int pa_nil))))
      (pss_one (ps_ret (pe_ix (r := rIxL K) ix_list (pe_lst (pa_cons (pe_op nAdd pe_int (pv 1)) (pa_cons pe_int pa_nil))) (pe_callTy call_int1 (by rfl) B.int (by decide +kernel) (pa_cons (pe_cmpR op_eq (pv 1) pe_int (nomark _)) pa_nil)) (fun _ _ => rfl))))), ?_⟩
  refine ⟨_, rfl, p, 36, rfl, by omega, by omega, hh, fun H1 r b1 h1 hr1 => ?_⟩
  refine ⟨_, rfl, 2, r, rfl, rfl, trivial, szl (by show 2 ≤ _; omega), fun t nt => ?_⟩
  have ntp : p ≠ t := by
    obtain ⟨_, _, _, e⟩ := h1
    exact ne_of_none e nt
  have b2 : But p H (upd H1 t (.lst [.int ((2 + r : Nat) : Int), .int 10])) := b1.trans (But.of (same_upd nt))
  refine ⟨_, rfl, rfl, .inr ⟨_, rfl, ?_⟩⟩
  by_cases c : r = 35
  · subst c
    exact ⟨t, _, 1, .int ((10 : Nat) : Int), rfl, rfl, SqL.of upd_same, atI_nat (j := 1) rfl, q _ 10 b2 (h1.mem (upd_ne ntp)) ⟨by omega, by omega⟩⟩
  · have e : ¬ V.int ((r : Nat) : Int) = V.int 35 := fun z => c (by have := V.int.inj z; omega)
    rw [decide_eq_false e]
    exact ⟨t, _, 0, .int ((2 + r : Nat) : Int), rfl, rfl, SqL.of upd_same, atI_nat (j := 0) rfl, q _ (2 + r) b2 (h1.mem (upd_ne ntp)) ⟨by omega, by omega⟩⟩
theorem ok_law_great (B : Bl mg) (D : Def K mg "_law_great" s_law_great ["hand", "k", "few", "most"]) (UD : Use P w K mg base 1 "_law_draw" ["hand", "limit"] spLDraw) : Use P w K mg base 2 "_law_great" ["hand", "k", "few", "most"] spLGreat := by
  refine D.ok c_law_great (fun vs H Q E h => ?_) (fun f cdv A outer s H vs Q E hr h => ?_)
  · obtain ⟨p, k, a, m, rfl, _⟩ := h
    rfl
  obtain ⟨p, k, a, m, rfl, hh, q⟩ := h
  refine ⟨_, (pss_one (ps_ret (pe_ix (r := rIxL K) ix_list (pe_lst (pa_cons (pv 2) (pa_cons (pv 3) pa_nil))) (pe_callTy call_int1 (by rfl) B.int (by decide +kernel) (pa_cons (pe_and (pe_cmpR op_eq (pv 1) pe_int (nomark _)) (pe_one (pe_cmpR op_eq (pcall UD hr (pa_cons (pv 0) (pa_cons pe_int pa_nil))) pe_int (nomark _)))) pa_nil)) (fun _ _ => rfl)))), ?_⟩
  refine ⟨_, rfl, _, rfl, szl (by show 2 ≤ _; omega), fun t nt => ?_⟩
  have ntp : p ≠ t := by
    obtain ⟨_, _, _, e⟩ := hh
    exact ne_of_none e nt
  have h1 : Hand p (upd H t (.lst [.int (a : Int), .int (m : Int)])) := hh.mem (upd_ne ntp)
  have b1 : But p H (upd H t (.lst [.int (a : Int), .int (m : Int)])) := But.of (same_upd nt)
  refine ⟨_, rfl, rfl, _, rfl, ite2 (fun c => ?_) (fun c => ?_)⟩
  · refine ⟨_, rfl, p, 8, rfl, by omega, by omega, h1, fun H1 r b2 h2 hr1 => ?_⟩
    have et : H1 t = some (.lst [.int (a : Int), .int (m : Int)]) := b2 t _ ntp.symm upd_same
    refine ⟨rfl, .inr ⟨_, rfl, ?_⟩⟩
    by_cases c1 : V.int ((r : Nat) : Int) = V.int 1
    · rw [decide_eq_true c1]
      exact ⟨t, _, 1, .int (m : Int), rfl, rfl, SqL.of et, atI_nat (j := 1) rfl, q _ m (b1.trans b2) h2 (.inr rfl)⟩
    · rw [decide_eq_false c1]
      exact ⟨t, _, 0, .int (a : Int), rfl, rfl, SqL.of et, atI_nat (j := 0) rfl, q _ a (b1.trans b2) h2 (.inl rfl)⟩
  · exact .inr ⟨_, rfl, t, _, 0, .int (a : Int), rfl, rfl, SqL.of upd_same, atI_nat (j := 0) rfl, q _ a b1 h1 (.inl rfl)⟩
end
end Ms


namespace Ms
open PySem PySem.Spec PyProof.Rows L2 MS
theorem mod_a (y : Int) : ∃ s : Nat, s < 2147483648 ∧ y % 2147483563 = (s : Int) := ⟨(y % 2147483563).toNat, by omega, by omega⟩
section
variable {P : Program} {w : World} {K : PySem.W.Frag} {mg : Str → Option Value} {base : Heap}
theorem ok_law_hand (D : Def K mg "_law_hand" s_law_hand ["cell", "k"]) : Use P w K mg base 1 "_law_hand" ["cell", "k"] spLHand := by
  refine D.ok c_law_hand (fun vs H Q E h => ?_) (fun f cdv A outer s H vs Q E hr h => ?_)
  · obtain ⟨c, k, rfl, _⟩ := h
    rfl
  obtain ⟨c, k, rfl, hk, q⟩ := h
  refine ⟨_, (pss_cons (ps_set (i := 2) c_law_hand.nd rfl (.inl rfl) pe_int)
      (pss_cons (ps_if (pt_cmpR op_ge (pv 0) (pe_op op_pow pe_int pe_int) (nomark _)) (pss_one (ps_set (i := 2) c_law_hand.nd rfl (.inl rfl) (pv 0))) pss_nil)
      (pss_one (ps_ret (pe_lst (pa_cons (pv 2) (pa_cons (pe_op op_mod (pe_op op_mul (pe_op op_add (pe_op op_add (pe_op op_mod (pv 0) pe_int) (pe_op op_mul pe_int (pv 1))) pe_int) pe_int) pe_int) pa_nil))))))), ?_⟩
  obtain ⟨s, hs, es⟩ := mod_a ((c % 2147483563 + 6271 * (k : Int) + 3) * 40014)
  refine ⟨_, rfl, 10, 18, rfl, rfl, ⟨by omega, by omega, by decide⟩, _, _, rfl, rfl, _, rfl, ite2 (fun g => ?_) (fun g => ?_)⟩
  · have g' : (10 : Int) ^ (18 : Int).toNat ≤ c := of_decide_eq_true g
    have g2 : 0 ≤ c := by
      have e : (10 : Int) ^ (18 : Int).toNat = 1000000000000000000 := by decide
      omega
    obtain ⟨d, rfl⟩ : ∃ d : Nat, c = (d : Int) := ⟨c.toNat, by omega⟩
    refine ⟨_, rfl, _, rfl, _, rfl, _, _, rfl, rfl, by show (0 : Int) < 2147483563; decide, _, rfl, _, _, rfl, rfl, .inl ⟨by decide, by decide⟩, _, _, rfl, rfl, _, _, rfl, rfl, _, _, rfl, rfl, .inr ⟨by decide, by decide⟩, _, _, rfl, rfl, by show (0 : Int) < 2147483563; decide, szl (by show 2 ≤ _; omega), fun p np => ?_⟩
    exact q _ p (same_upd np) np ⟨d, s, hs, by rw [upd_same, ← es]⟩
  · refine ⟨_, rfl, _, rfl, _, _, rfl, rfl, by show (0 : Int) < 2147483563; decide, _, rfl, _, _, rfl, rfl, .inl ⟨by decide, by decide⟩, _, _, rfl, rfl, _, _, rfl, rfl, _, _, rfl, rfl, .inr ⟨by decide, by decide⟩, _, _, rfl, rfl, by show (0 : Int) < 2147483563; decide, szl (by show 2 ≤ _; omega), fun p np => ?_⟩
    exact q _ p (same_upd np) np ⟨0, s, hs, by rw [upd_same, ← es]; rfl⟩
theorem ok_law_draw (D : Def K mg "_law_draw" s_law_draw ["hand", "limit"]) : Use P w K mg base 1 "_law_draw" ["hand", "limit"] spLDraw := by
  refine D.ok c_law_draw (fun vs H Q E h => ?_) (fun f cdv A outer s H vs Q E hr h => ?_)
  · obtain ⟨p, l, rfl, _⟩ := h
    rfl
  obtain ⟨p, l, rfl, hl, hl2, ⟨d, s, hs, hp⟩, q⟩ := h
  refine ⟨_, (pss_cons (ps_if (pt_cmpR op_gt (pe_ix (r := rIxL K) ix_list (pv 0) pe_int (fun _ _ => rfl)) pe_int (nomark _)) (pss_cons (ps_set (i := 2) c_law_draw.nd rfl (.inl rfl) (pe_op nMod (pe_ix (r := rIxL K) ix_list (pv 0) pe_int (fun _ _ => rfl)) (pv 1)))
      (pss_cons (ps_asg (pe_op nDiv (pe_ix (r := rIxL K) ix_list (pv 0) pe_int (fun _ _ => rfl)) (pv 1)) (pg_sub (pv 0) pe_int set_list))
      (pss_one (ps_ret (pv 2))))) pss_nil)
      (pss_cons (ps_asg (pe_op nMod (pe_op nAdd (pe_op nAdd (pe_op nMul (pe_ix (r := rIxL K) ix_list (pv 0) pe_int (fun _ _ => rfl)) (pe_ix (r := rIxL K) ix_list (pv 0) pe_int (fun _ _ => rfl))) (pe_op nMul pe_int (pe_ix (r := rIxL K) ix_list (pv 0) pe_int (fun _ _ => rfl)))) pe_int) pe_int) (pg_sub (pv 0) pe_int set_list))
      (pss_one (ps_ret (pe_op nMod (pe_op nDiv (pe_ix (r := rIxL K) ix_list (pv 0) pe_int (fun _ _ => rfl)) pe_int) (pv 1)))))), ?_⟩
  refine ⟨_, rfl, p, _, 0, .int (d : Int), rfl, rfl, SqL.of hp, atI_nat (j := 0) rfl, _, _, rfl, rfl, _, rfl, ite2 (fun c => ?_) (fun c => ?_)⟩
  · refine ⟨_, rfl, p, _, 0, .int (d : Int), rfl, rfl, SqL.of hp, atI_nat (j := 0) rfl, _, rfl, d, l, rfl, rfl, hl, ?_⟩
    refine ⟨_, rfl, p, _, 0, .int (d : Int), rfl, rfl, SqL.of hp, atI_nat (j := 0) rfl, _, rfl, d, l, rfl, rfl, ⟨hl, hl2⟩, _, rfl, p, _, 0, 0, rfl, rfl, hp, rfl, ?_⟩
    exact ⟨_, rfl, q _ (d % l) But.upd ⟨d / l, s, hs, by rw [upd_same]; rfl⟩ (Nat.mod_lt _ hl)⟩
  · refine ⟨_, rfl, p, _, 1, .int (s : Int), rfl, rfl, SqL.of hp, atI_nat (j := 1) rfl, _, rfl, p, _, 1, .int (s : Int), rfl, rfl, SqL.of hp, atI_nat (j := 1) rfl, s, s, rfl, rfl, .inl (by omega),
      _, rfl, p, _, 1, .int (s : Int), rfl, rfl, SqL.of hp, atI_nat (j := 1) rfl, 52774, s, rfl, rfl, .inl (by omega), s * s, 52774 * s, rfl, rfl, trivial, s * s + 52774 * s, 40692, rfl, rfl, trivial,
      s * s + 52774 * s + 40692, 2147483563, rfl, rfl, by omega, _, rfl, p, _, 1, 1, rfl, rfl, hp, rfl, ?_⟩
    refine ⟨_, rfl, p, _, 1, .int (((s * s + 52774 * s + 40692) % 2147483563 : Nat) : Int), rfl, rfl, SqL.of upd_same, atI_nat (j := 1) rfl, _, 16, rfl, rfl, ⟨by omega, by omega⟩, _, rfl, _, l, rfl, rfl, hl, ?_⟩
    refine q _ _ But.upd ⟨d, (s * s + 52774 * s + 40692) % 2147483563, ?_, by rw [upd_same]; rfl⟩ (Nat.mod_lt _ hl)
    have := Nat.mod_lt (s * s + 52774 * s + 40692) (show 0 < 2147483563 by omega)
    omega
end
end Ms


namespace Ms
open PySem PySem.Spec PyProof.Rows L2 MS
def TellB (H : Hp) (Q : VK) (c : Bool) : Prop := ∀ H', Same H H' → Q (.bl c) H'
def spLCells (K : PySem.W.Frag) : Sp := fun vs H Q _ => ∃ (a : Addr) (ns : List Int) (m : Nat), vs = [.ref a, .int (m : Int)] ∧ SqL K H a (ns.map V.int) ∧ ns.length ≤ 63 ∧
  ∀ H' p (ts : List Addr) (cs : List Int), Same H H' → H p = none → H' p = some (.lst (ts.map V.ref)) → ts.length = cs.length → cs.length ≤ 64 →
    (∀ (j : Nat) (c : Int) (t : Addr), cs[j]? = some c → ts[j]? = some t → H' t = some (.tup [.int (j : Int), .int c])) → Q (.ref p) H'
def spLIs : Sp := fun vs H Q _ => ∃ n b : Nat, vs = [.int (n : Int), .int (b : Int)] ∧ Base b ∧ 1 ≤ n ∧ n < 2 ^ 200 ∧ TellB H Q (isPal b n)
def spLWholes (K : PySem.W.Frag) : Sp := fun vs H Q _ => ∃ (a c : Addr) (l : List Nat), vs = [.ref a, .ref c] ∧ H a = some (.lst (vN l)) ∧ SqL K H c (vN l) ∧ TellB H Q true
theorem clampN (v : Int) (m : Nat) : ∃ n : Nat, n ≤ m ∧ (if (if v < (m : Int) then v else (m : Int)) > 0 then (if v < (m : Int) then v else (m : Int)) else 0) = (n : Int) := by
  by_cases h : v < (m : Int)
  · rw [if_pos h]
    by_cases h2 : v > 0
    · rw [if_pos h2]
      exact ⟨v.toNat, by omega, by omega⟩
    · rw [if_neg h2]
      exact ⟨0, by omega, rfl⟩
  · rw [if_neg h]
    by_cases h2 : (m : Int) > 0
    · rw [if_pos h2]
      exact ⟨m, Nat.le_refl _, rfl⟩
    · rw [if_neg h2]
      exact ⟨0, by omega, rfl⟩
/-- the figures from the last one on, of 0 none -/
def digZ (b m : Nat) : List Nat := if m = 0 then [] else digL b m
theorem digZ_step {b m : Nat} (hb : 2 ≤ b) (h : 1 ≤ m) : digZ b m = m % b :: digZ b (m / b) := by
  unfold digZ
  rw [if_neg (by omega)]
  by_cases c : b ≤ m
  · have : 1 ≤ m / b := (Nat.le_div_iff_mul_le (by omega)).mpr (by omega)
    rw [if_neg (by omega), digL, if_pos ⟨hb, c⟩]
  · have e : m / b = 0 := Nat.div_eq_of_lt (by omega)
    rw [e, if_pos rfl, digL, if_neg (by omega)]
section
variable {P : Program} {w : World} {K : PySem.W.Frag} {mg : Str → Option Value} {base : Heap}
theorem ok_law_cells (B : Bl mg) (D : Def K mg "_law_cells" s_law_cells ["script", "many"]) : Use P w K mg base 1 "_law_cells" ["script", "many"] (spLCells K) := by
  refine D.ok c_law_cells (fun vs H Q E h => ?_) (fun f cdv A outer s H vs Q E hr h => ?_)
  · obtain ⟨a, ns, m, rfl, _⟩ := h
    rfl
  obtain ⟨a, ns, m, rfl, hS, hl, q⟩ := h
  refine ⟨_, (pss_one (ps_ret (MsE.pe_listEnum rfl (pe_op op_cat (pe_slice sl_list (pv 0) po_none (po_some (pv 1))) (pe_op op_rep (pe_lst (pa_cons pe_int pa_nil)) (pe_callTy call_int1 (by rfl) B.int (by decide +kernel) (pa_cons (pe_cmpR (op_eqD hr.units) (pv 0) (pe_lst pa_nil) (nomark _)) pa_nil)))) (by rfl) B.list PyProof.Rows.boot_list (by rfl) B.enumerate))), ?_⟩
  refine ⟨_, rfl, _, rfl, (m : Int), rfl, a, _, rfl, hS, ?_⟩
  have e1 : cutV (ns.map V.int) none (some (m : Int)) = (ns.take m).map V.int := by rw [cut_to, List.map_take]
  rw [e1]
  intro c nc
  have s1 := same_upd (o := .lst ((ns.take m).map V.int)) nc
  refine ⟨szl (by show 1 ≤ _; omega), fun z nz => ?_⟩
  have s2 := s1.trans (same_upd (o := .lst [.int 0]) nz)
  refine ⟨_, rfl, szl (by show 0 ≤ _; omega), fun y ny => ?_⟩
  have s3 := s2.trans (same_upd (o := .lst []) ny)
  refine ⟨_, _, dp_int (s3.seq hS), dp_n (l := []) (SqL.of upd_same), sh_int _, sh_int _, .inr ⟨_, rfl, ?_⟩⟩
  have ez : (upd (upd (upd H c (.lst ((ns.take m).map V.int))) z (.lst [.int 0])) y (.lst [])) z = some (.lst [.int 0]) := same_upd ny _ _ upd_same
  have ec : (upd (upd (upd H c (.lst ((ns.take m).map V.int))) z (.lst [.int 0])) y (.lst [])) c = some (.lst ((ns.take m).map V.int)) := same_upd ny _ _ (same_upd nz _ _ upd_same)
  have go : ∀ (k : Nat), k ≤ 1 → ∀ (r : Addr), (upd (upd (upd H c (.lst ((ns.take m).map V.int))) z (.lst [.int 0])) y (.lst [])) r = none → rCat (.ref c) (.ref r) (upd (upd (upd (upd H c (.lst ((ns.take m).map V.int))) z (.lst [.int 0])) y (.lst [])) r (.lst (List.replicate k [V.int 0]).flatten)) (fun x H1 => MsE.rEnumL K x H1 Q) := by
    intro k hk r nr
    have e0 : (List.replicate k [V.int 0]).flatten = (List.replicate k (0 : Int)).map V.int := by
      rw [List.flatten_replicate_singleton, List.map_replicate]
    rw [e0]
    have lt : (ns.take m).length ≤ 63 := by
      rw [List.length_take]
      omega
    refine ⟨c, r, _, _, rfl, rfl, same_upd nr _ _ ec, upd_same, szl ?_, fun t nt => ?_⟩
    · rw [List.length_map, List.length_map, List.length_replicate]
      omega
    · rw [← List.map_append]
      refine ⟨t, _, rfl, SqL.of upd_same, fun H' p ts sm np hp hts hat => ?_⟩
      have s4 := s3.trans ((same_upd (o := .lst ((List.replicate k (0 : Int)).map V.int)) nr).trans (same_upd (o := .lst ((ns.take m ++ List.replicate k (0 : Int)).map V.int)) nt))
      refine q H' p ts (ns.take m ++ List.replicate k 0) (s4.trans sm) (s4.free np) hp (by rw [hts, List.length_map]) ?_ fun j cc t' hj ht => hat j (.int cc) t' (by rw [List.getElem?_map, hj]; rfl) ht
      rw [List.length_append, List.length_replicate]
      omega
  generalize PyData.eqv _ _ = bb
  cases bb with
  | true => exact ⟨z, 1, _, rfl, rfl, ez, by decide, by decide, szl (by show 1 * 1 ≤ _; omega), fun r nr => go 1 (by omega) r nr⟩
  | false => exact ⟨z, 0, _, rfl, rfl, ez, by decide, by decide, szl (by show 1 * 0 ≤ _; omega), fun r nr => go 0 (by omega) r nr⟩
theorem ok_law_is (D : Def K mg "_law_is" s_law_is ["number", "base"]) : Use P w K mg base 1 "_law_is" ["number", "base"] spLIs := by
  refine D.ok c_law_is (fun vs H Q E h => ?_) (fun f cdv A outer s H vs Q E hr h => ?_)
  · obtain ⟨n, b, rfl, _⟩ := h
    rfl
  obtain ⟨n, b, rfl, ⟨hb, hb2⟩, h1, hn, q⟩ := h
  refine ⟨_, (pss_cons (ps_set (i := 2) c_law_is.nd rfl (.inl rfl) (pe_lst pa_nil))
      (pss_cons (ps_set (i := 3) c_law_is.nd rfl (.inl rfl) (pv 0))
      (pss_cons (ps_while PassesOwn.never (pt_cmpR op_gt (pv 3) pe_int (nomark _)) (pss_cons (ps_expr (pe_bm PySem.F.plainAttrs_list PySem.F.slot_list_append PySem.F.type_list_append mt_append (pv 2) (pa_cons (pe_op nMod (pv 3) (pv 1)) pa_nil)))
      (pss_one (ps_set (i := 3) c_law_is.nd rfl (.inl rfl) (pe_op nDiv (pv 3) (pv 1))))))
      (pss_one (ps_ret (pe_cmpR (op_eqD hr.units) (pv 2) (pe_revL (pv 2)) (nomark _))))))), ?_⟩
  refine ⟨szl (by show 0 ≤ _; omega), fun p np => ?_⟩
  refine ⟨_, rfl, ?_⟩
  refine wh (fun m σ H' => ∃ L, digL b n = L ++ digZ b m ∧ σ = [some (.int (n : Int)), some (.int (b : Int)), some (.ref p), some (.int (m : Int))] ∧ Same H H' ∧ H' p = some (.lst (vN L))) n ⟨[], by unfold digZ; rw [if_neg (by omega)]; rfl, rfl, same_upd np, upd_same⟩ ?_
  rintro m σ H' ⟨L, hL, rfl, sm, hp⟩
  refine ⟨_, rfl, _, _, rfl, rfl, _, rfl, ite2 (fun c => ?_) (fun c => ?_)⟩
  · have c' : 1 ≤ m := by have := of_decide_eq_true c; omega
    have hd := digZ_step hb c'
    have hlen : L.length + 1 ≤ nd b n := by
      unfold nd figs
      rw [List.length_reverse, hL, hd, List.length_append, List.length_cons]
      omega
    have hnd := nd_bd hb (by omega) hn
    refine ⟨fun σ' H'' => ∃ L, digL b n = L ++ digZ b (m / b) ∧ σ' = [some (.int (n : Int)), some (.int (b : Int)), some (.ref p), some (.int ((m / b : Nat) : Int))] ∧ Same H H'' ∧ H'' p = some (.lst (vN L)), fun σ' H'' h => ⟨m / b, Nat.div_lt_self (by omega) (by omega), h⟩, ?_⟩
    refine ⟨_, rfl, .inl ⟨rfl, _, SqL.of hp⟩, _, rfl, _, rfl, m, b, rfl, rfl, by omega, _, _, _, rfl, rfl, hp, szt (by rw [vN_len]; omega), ?_⟩
    refine ⟨_, rfl, _, rfl, m, b, rfl, rfl, ⟨by omega, by omega⟩, L ++ [m % b], by rw [hL, hd, List.append_assoc]; rfl, rfl, same_mut sm np, ?_⟩
    rw [upd_same, vN_app]
    rfl
  · have c' : m = 0 := by have := of_decide_eq_false (Bool.eq_false_iff.mpr c); omega
    subst c'
    have hd : digL b n = L := by
      rw [hL]
      unfold digZ
      rw [if_pos rfl, List.append_nil]
    refine ⟨_, rfl, _, rfl, _, _, rfl, SqL.of hp, fun r nr => ?_⟩
    have s2 := same_upd (o := .lst (vN L).reverse) nr
    refine ⟨_, _, dp_n (SqL.of (s2 _ _ hp)), dp_n (l := L.reverse) (SqL.of (by rw [upd_same, vN_rev])), sh_int _, sh_int _, ?_⟩
    have q' := q _ (sm.trans s2)
    have e : isPal b n = PyData.eqv (dI (iN L)) (dI (iN L.reverse)) := by
      rw [eqv_n]
      unfold isPal figs
      rw [hd, List.reverse_reverse]
      exact decide_eq_decide.mpr eq_comm
    rw [e] at q'
    exact q'
theorem ok_law_wholes (B : Bl mg) (D : Def K mg "_law_wholes" s_law_wholes ["found", "due"]) : Use P w K mg base 1 "_law_wholes" ["found", "due"] (spLWholes K) := by
  refine D.ok c_law_wholes (fun vs H Q E h => ?_) (fun f cdv A outer s H vs Q E hr h => ?_)
  · obtain ⟨a, c, l, rfl, _⟩ := h
    rfl
  obtain ⟨a, c, l, rfl, ha, hc, q⟩ := h
  refine ⟨_, (pss_cons (ps_if (PW.pt (pw_or (pt_not (pt_val (pe_callB (r := rIsi K) call_isi (by rfl) B.isinstance PyProof.Rows.boot_isinstance (pa_cons (pv 0) (pa_cons (pe_bltn (v := .ty "list") (by rfl) B.list PyProof.Rows.boot_list rfl) pa_nil))))) (pw_or1 (pt_cmpR (op_neD hr.units) (pv 0) (pv 1) (nomark _))))) (pss_one (ps_ret pe_bl)) pss_nil)
      (pss_one (ps_ret (pe_cmpR (op_eqD hr.units) (pe_lc (own := [("one", 2)]) (g := gName 2) rfl c_law_wholes.nd (pi_list (pv 0)) (blkOk_by (N := n_law_wholes) (sc := defScope s_law_wholes) (by decide +kernel)) (fun _ _ _ _ _ => pg_name (i := 2) c_law_wholes.nd rfl (Or.inl rfl)) (fun _ _ _ _ _ => pts_one (PW.pt (pw_or (pt_not (pt_val (pe_callB (r := rIsi K) call_isi (by rfl) B.isinstance PyProof.Rows.boot_isinstance (pa_cons (pv 2) (pa_cons (pe_bltn (v := .ty "int") (by rfl) B.int PyProof.Rows.boot_int rfl) pa_nil))))) (pw_or1 (pt_val (pe_callB (r := rIsi K) call_isi (by rfl) B.isinstance PyProof.Rows.boot_isinstance (pa_cons (pv 2) (pa_cons (pe_bltn (v := .ty "bool") (by rfl) B.bool PyProof.Rows.boot_bool rfl) pa_nil)))))))) (fun _ _ _ _ _ => (pv 2))) (pe_lst pa_nil) (nomark _))))), ?_⟩
  refine ⟨_, rfl, _, _, _, _, true, rfl, .ty _, .base (.lst ha), kit_ty (by decide +kernel), true, rfl, iteF ?_⟩
  refine ⟨_, rfl, _, rfl, _, _, dp_n (SqL.of ha), dp_n hc, sh_int _, sh_int _, ?_⟩
  rw [eqv_n, decide_eq_true rfl]
  refine ⟨false, rfl, iteF ?_⟩
  refine ⟨_, rfl, a, rfl, ⟨_, SqL.of ha⟩, fun D nD => ?_⟩
  refine lc_list (K := K) (a := a) (xs := vN l) (fun i H' => H' = upd H D (.lst (vN []))) rfl (fun i H' _ e => SqL.of (by rw [e]; exact same_upd nD _ _ ha)) ?_ ?_
  · rintro i x H' hx rfl
    obtain ⟨n, hn, rfl⟩ := vN_of hx
    refine ⟨rfl, _, rfl, _, _, _, _, true, rfl, .ty _, .base (.int _), kit_ty (by decide +kernel), true, rfl, iteF ?_⟩
    exact ⟨_, rfl, _, _, _, _, false, rfl, .ty _, .base (.int _), kit_ty (by decide +kernel), false, rfl, iteF rfl⟩
  · rintro H' rfl
    refine ⟨szl (by show 0 ≤ _; omega), fun r nr => ?_⟩
    have s2 := same_upd (o := .lst []) nr
    refine ⟨_, _, dp_n (l := []) (SqL.of (s2 _ _ upd_same)), dp_n (l := []) (SqL.of upd_same), sh_int _, sh_int _, ?_⟩
    rw [eqv_n, decide_eq_true rfl]
    exact q _ ((same_upd nD).trans s2)
end
end Ms


namespace Ms
open PySem PySem.Spec PyProof.Rows L2 MS
section
variable {P : Program} {w : World} {K : PySem.W.Frag} {mg : Str → Option Value} {base : Heap}
theorem ok_law_number (B : Bl mg) (D : Def K mg "_law_number" s_law_number ["hand", "base", "most"]) (UD : Use P w K mg base 1 "_law_draw" ["hand", "limit"] spLDraw) : Use P w K mg base 2 "_law_number" ["hand", "base", "most"] spLNumber := by
  refine D.ok c_law_number (fun vs H Q E h => ?_) (fun f cdv A outer s H vs Q E hr h => ?_)
  · obtain ⟨p, b, m, rfl, _⟩ := h
    rfl
  obtain ⟨p, b, m, rfl, ⟨hb, hb2⟩, hm, hm2, hh, q⟩ := h
  refine ⟨_, (pss_cons (ps_set (i := 3) c_law_number.nd rfl (.inl rfl) (pcall UD hr (pa_cons (pv 0) (pa_cons pe_int pa_nil))))
      (pss_cons (ps_if (pt_cmpR op_lt (pv 3) pe_int (nomark _)) (pss_one (ps_ret (pcall UD hr (pa_cons (pv 0) (pa_cons (pe_ix (r := rIxL K) ix_list (pe_lst (pa_cons pe_int (pa_cons (pe_op nAdd (pv 2) pe_int) (pa_cons (pe_op nAdd (pv 2) pe_int) pa_nil)))) (pv 3) (fun _ _ => rfl)) pa_nil))))) pss_nil)
      (pss_cons (ps_set (i := 4) c_law_number.nd rfl (.inl rfl) pe_int)
      (pss_cons (ps_for PassesOwn.never rfl (pi_range1 (by rfl) B.range (pa_cons (pcall UD hr (pa_cons (pv 0) (pa_cons pe_int pa_nil))) pa_nil)) (pg_name (i := 5) c_law_number.nd rfl (.inl rfl)) (pss_one (ps_if (pt_cmpR op_le (pe_op nMul (pv 4) (pv 1)) (pv 2) (nomark _)) (pss_one (ps_set (i := 4) c_law_number.nd rfl (.inl rfl) (pe_op nMul (pv 4) (pv 1)))) pss_nil)))
      (pss_cons (ps_if (pt_cmpR op_eq (pv 3) pe_int (nomark _)) (pss_one (ps_ret (pv 2))) pss_nil)
      (pss_cons (ps_set (i := 6) c_law_number.nd rfl (.inl rfl) (pe_lst (pa_cons (pv 4) (pa_cons (pe_op nMul (pv 4) (pe_op nAdd pe_int (pcall UD hr (pa_cons (pv 0) (pa_cons (pv 1) pa_nil))))) (pa_cons (pe_op nAdd (pv 4) (pe_op nDiv (pv 4) pe_int)) pa_nil)))))
      (pss_one (ps_ret (pe_callB (call_max2 rfl) (by rfl) B.max (by decide +kernel) (pa_cons pe_int (pa_cons (pe_callB (call_min2 rfl) (by rfl) B.min (by decide +kernel) (pa_cons (pv 2) (pa_cons (pe_op op_sub (pe_op op_add (pe_ix (r := rIxL K) ix_list (pv 6) (pe_op nSub (pv 3) pe_int) (fun _ _ => rfl)) (pcall UD hr (pa_cons (pv 0) (pa_cons pe_int pa_nil)))) pe_int) pa_nil))) pa_nil))))))))))), ?_⟩
  refine ⟨_, rfl, p, 7, rfl, by omega, by omega, hh, fun H1 y b1 h1 hy => ?_⟩
  refine ⟨_, rfl, _, _, rfl, rfl, _, rfl, ite2 (fun c => ?_) (fun c => ?_)⟩
  · have c' : y < 3 := by have := of_decide_eq_true c; omega
    refine ⟨_, rfl, _, rfl, m, 1, rfl, rfl, trivial, _, rfl, m, 1, rfl, rfl, trivial, szl (by show 3 ≤ _; omega), fun t nt => ?_⟩
    have ntp : p ≠ t := by
      obtain ⟨_, _, _, e⟩ := h1
      exact ne_of_none e nt
    have b2 := b1.trans (But.of (same_upd (o := .lst [.int 41, .int ((m + 1 : Nat) : Int), .int ((m + 1 : Nat) : Int)]) nt))
    have h2 : Hand p (upd H1 t (.lst [.int 41, .int ((m + 1 : Nat) : Int), .int ((m + 1 : Nat) : Int)])) := h1.mem (upd_ne ntp)
    by_cases c0 : y = 0
    · subst c0
      refine ⟨_, rfl, t, _, 0, .int ((41 : Nat) : Int), rfl, rfl, SqL.of upd_same, atI_nat (j := 0) rfl, p, 41, rfl, by omega, by omega, h2, fun H3 r b3 h3 hr3 => ?_⟩
      exact q H3 r (b2.trans b3) h3 (by omega)
    · by_cases c1 : y = 1
      · subst c1
        refine ⟨_, rfl, t, _, 1, .int ((m + 1 : Nat) : Int), rfl, rfl, SqL.of upd_same, atI_nat (j := 1) rfl, p, m + 1, rfl, by omega, by omega, h2, fun H3 r b3 h3 hr3 => ?_⟩
        exact q H3 r (b2.trans b3) h3 (by omega)
      · have c2 : y = 2 := by omega
        subst c2
        refine ⟨_, rfl, t, _, 2, .int ((m + 1 : Nat) : Int), rfl, rfl, SqL.of upd_same, atI_nat (j := 2) rfl, p, m + 1, rfl, by omega, by omega, h2, fun H3 r b3 h3 hr3 => ?_⟩
        exact q H3 r (b2.trans b3) h3 (by omega)
  · have c' : 3 ≤ y := by have := of_decide_eq_false (Bool.eq_false_iff.mpr c); omega
    refine ⟨_, rfl, p, 20, rfl, by omega, by omega, h1, fun H2 z b2 h2 hz => ?_⟩
    refine ⟨((z : Nat) : Int), rfl, by omega, by omega, ?_⟩
    refine for_range (lo := 0) (n := ((z : Nat) : Int).toNat) (fun i σ H' => ∃ (w : Nat) (v : Option V), 1 ≤ w ∧ w ≤ m ∧ σ = [some (.ref p), some (.int (b : Int)), some (.int (m : Int)), some (.int (y : Int)), some (.int (w : Int)), v, none] ∧ H' = H2) ⟨1, none, Nat.le_refl _, by omega, rfl, rfl⟩ ?_ ?_
    · rintro i σ H' hi ⟨w, v, w1, w2, rfl, rfl⟩
      refine ⟨_, rfl, _, rfl, w, b, rfl, rfl, .inl (by omega), _, rfl, _, _, rfl, rfl, _, rfl, ite2 (fun g => ?_) (fun g => ?_)⟩
      · have g1 : ((w * b : Nat) : Int) ≤ (m : Int) := of_decide_eq_true g
        have g' : w * b ≤ m := by omega
        refine ⟨_, rfl, _, rfl, w, b, rfl, rfl, .inl (by omega), w * b, _, ?_, g', rfl, rfl⟩
        exact Nat.le_trans w1 (Nat.le_mul_of_pos_right _ (by omega))
      · exact ⟨w, _, w1, w2, rfl, rfl⟩
    · rintro σ H' ⟨w, v, w1, w2, rfl, rfl⟩
      refine ⟨_, rfl, rfl, _, rfl, ite2 (fun g => ?_) (fun g => ?_)⟩
      · exact ⟨_, rfl, q H' m (b1.trans b2) h2 (Nat.le_refl _)⟩
      · have g' : ¬ y = 6 := fun e => by
          subst e
          exact g (decide_eq_true rfl)
        refine ⟨_, rfl, _, rfl, _, rfl, _, rfl, p, b, rfl, by omega, by omega, h2, fun H3 d b3 h3 hd => ?_⟩
        refine ⟨1, d, rfl, rfl, trivial, w, 1 + d, rfl, rfl, .inl (by omega), _, rfl, _, rfl, w, 2, rfl, rfl, ⟨by omega, by omega⟩, w, w / 2, rfl, rfl, trivial, szl (by show 3 ≤ _; omega), fun t nt => ?_⟩
        have ntp : p ≠ t := by
          obtain ⟨_, _, _, e⟩ := h3
          exact ne_of_none e nt
        have h4 : Hand p (upd H3 t (.lst [.int (w : Int), .int ((w * (1 + d) : Nat) : Int), .int ((w + w / 2 : Nat) : Int)])) := h3.mem (upd_ne ntp)
        have b4 := (b1.trans (b2.trans b3)).trans (But.of (same_upd (o := .lst [.int (w : Int), .int ((w * (1 + d) : Nat) : Int), .int ((w + w / 2 : Nat) : Int)]) nt))
        obtain ⟨v, hv⟩ : ∃ v : Int, atI [V.int (w : Int), .int ((w * (1 + d) : Nat) : Int), .int ((w + w / 2 : Nat) : Int)] ((y - 3 : Nat) : Int) = some (.int v) := by
          by_cases e3 : y = 3
          · subst e3
            exact ⟨_, rfl⟩
          · by_cases e4 : y = 4
            · subst e4
              exact ⟨_, rfl⟩
            · have e5 : y = 5 := by omega
              subst e5
              exact ⟨_, rfl⟩
        refine ⟨_, rfl, _, rfl, _, rfl, y, 3, rfl, rfl, c', t, _, _, .int v, rfl, rfl, SqL.of upd_same, hv, ?_⟩
        refine ⟨_, rfl, p, 5, rfl, by omega, by omega, h4, fun H5 e b5 h5 he => ?_⟩
        refine ⟨_, _, rfl, rfl, _, _, rfl, rfl, _, _, rfl, _, _, rfl, ?_⟩
        obtain ⟨n, hn, en⟩ := clampN (v + (e : Int) - 2) m
        have q' := q H5 n (b4.trans b5) h5 hn
        rw [← en] at q'
        exact q'
end
end Ms


namespace Ms
open PySem PySem.Spec PyProof.Rows L2 MS
def spLFewest : Sp := fun vs H Q _ => ∃ b n : Nat, vs = [.int (b : Int), .int (n : Int)] ∧ Base b ∧ n ≤ 1000000 ∧ TellL H Q (tab b n)
def vF (b N : Nat) (S : Nat → Bool) : List V := (fl b N S).map V.int
theorem vF_get {b N x : Nat} {S : Nat → Bool} (h : x ≤ N) : (vF b N S)[x]? = some (.int (if S x = true then ((need b x : Nat) : Int) else -1)) := by
  unfold vF
  rw [List.getElem?_map, fl_get h]
  rfl
theorem vF_set {b N x : Nat} {S : Nat → Bool} (h : x ≤ N) : (vF b N S).set x (.int ((need b x : Nat) : Int)) = vF b N (fun y => S y || y == x) := by
  unfold vF
  rw [← fl_set h, List.map_set]
theorem ixN_nat {n k : Nat} (h : k < n) : ixN n (k : Int) = some k := by
  unfold ixN
  rw [if_pos (by omega), if_pos (by omega), Int.toNat_natCast]
/-- amid a level -/
def Lev (b n m : Nat) (p g a : Addr) (A : List Nat) (H : Hp) (S : Nat → Bool) (v7 v8 : Option V) (σ : L2.St) (H' : Hp) : Prop :=
  (∀ x, lv b m x = true → S x = true) ∧ (∀ x, S x = true → need b x ≤ m + 1) ∧
  σ = [some (.int (b : Int)), some (.int (n : Int)), some (.ref p), some (.ref g), some (.int ((cn n S : Nat) : Int)), some (.int ((m + 1 : Nat) : Int)), some (.ref a), v7, v8] ∧
  Same H H' ∧ H' p = some (.lst (vN (pals b n))) ∧ H' g = some (.lst (vF b n S)) ∧ H' a = some (.lst (vN A))
section
variable {P : Program} {w : World} {K : PySem.W.Frag} {mg : Str → Option Value} {base : Heap}
theorem ok_law_fewest (B : Bl mg) (D : Def K mg "_law_fewest" s_law_fewest ["base", "most"]) (UI : Use P w K mg base 1 "_law_is" ["number", "base"] spLIs) : Use P w K mg base 2 "_law_fewest" ["base", "most"] spLFewest := by
  refine D.ok c_law_fewest (fun vs H Q E h => ?_) (fun f cdv A outer s H vs Q E hr h => ?_)
  · obtain ⟨b, n, rfl, _⟩ := h
    rfl
  obtain ⟨b, n, rfl, hB, hn, q⟩ := h
  have hb := hB.1
  refine ⟨_, (pss_cons (ps_setLc (i := 2) (own := [("number", 7)]) (g := gName 7) rfl c_law_fewest.nd rfl rfl (sw_true rfl rfl rfl (by decide +kernel)) (pi_range2 (by rfl) B.range (pa_cons pe_int (pa_cons (pe_op nAdd (pv 1) pe_int) pa_nil))) (blkOk_by (N := n_law_fewest) (sc := defScope s_law_fewest) (by decide +kernel)) (fun _ _ _ _ _ => pg_name (i := 7) c_law_fewest.nd rfl (Or.inl rfl)) (fun _ _ _ _ _ => pts_one (pt_val (pcall UI hr (pa_cons (pv 7) (pa_cons (pv 0) pa_nil))))) (fun _ _ _ _ _ => (pv 7)))
      (pss_cons (ps_set (i := 3) c_law_fewest.nd rfl (.inr rfl) (pe_op op_cat (pe_lst (pa_cons pe_int pa_nil)) (pe_op op_rep (pe_lst (pa_cons (pe_un un_neg pe_int) pa_nil)) (pv 1))))
      (pss_cons (ps_set (i := 4) c_law_fewest.nd rfl (.inl rfl) (pv 1))
      (pss_cons (ps_set (i := 5) c_law_fewest.nd rfl (.inr rfl) pe_int)
      (pss_cons (ps_while PassesOwn.never (pt_cmpR op_gt (pv 4) pe_int (nomark _)) (pss_cons (ps_set (i := 5) c_law_fewest.nd rfl (.inr rfl) (pe_op nAdd (pv 5) pe_int))
      (pss_cons (ps_setLc (i := 6) (own := [("number", 7)]) (g := gName 7) rfl c_law_fewest.nd rfl rfl (sw_true rfl rfl rfl (by decide +kernel)) (pi_range1 (by rfl) B.range (pa_cons (pe_op nAdd (pv 1) pe_int) pa_nil)) (blkOk_by (N := n_law_fewest) (sc := defScope s_law_fewest) (by decide +kernel)) (fun _ _ _ _ _ => pg_name (i := 7) c_law_fewest.nd rfl (Or.inl rfl)) (fun _ _ _ _ _ => pts_one (pt_cmpR op_eq (pe_ix (r := rIxL K) ix_list (pv 3) (pv 7) (fun _ _ => rfl)) (pe_op nSub (pv 5) pe_int) (nomark _))) (fun _ _ _ _ _ => (pv 7)))
      (pss_one (ps_for PassesOwn.never rfl (pi_list (pv 6)) (pg_name (i := 7) c_law_fewest.nd rfl (.inl rfl)) (pss_one (ps_for PassesOwn.never rfl (pi_list (pv 2)) (pg_name (i := 8) c_law_fewest.nd rfl (.inl rfl)) (pss_cons (ps_if (pt_cmpR op_gt (pe_op nAdd (pv 7) (pv 8)) (pv 1) (nomark _)) (pss_one ps_break) pss_nil)
      (pss_one (ps_if (pt_cmpR op_lt (pe_ix (r := rIxL K) ix_list (pv 3) (pe_op nAdd (pv 7) (pv 8)) (fun _ _ => rfl)) pe_int (nomark _)) (pss_cons (ps_asg (pv 5) (pg_sub (pv 3) (pe_op nAdd (pv 7) (pv 8)) set_list))
      (pss_one (ps_set (i := 4) c_law_fewest.nd rfl (.inl rfl) (pe_op nSub (pv 4) pe_int)))) pss_nil))))))))))
      (pss_one (ps_ret (pv 3)))))))), ?_⟩
  -- parts
  refine ⟨_, rfl, n, 1, rfl, rfl, trivial, 1, ((n + 1 : Nat) : Int), rfl, ⟨by omega, by omega, by omega, by omega⟩, fun p np => ?_⟩
  refine lcN (lo := 1) (m := n) (by omega) (fun i H' => Same H H' ∧ H' p = some (.lst (vN ((List.range' 1 i).filter (isPal b))))) ⟨same_upd np, upd_same⟩ ?_ ?_
  · rintro i H' hi ⟨sm, hp⟩
    refine ⟨rfl, _, rfl, _, rfl, 1 + i, b, rfl, hB, by omega, by omega, fun H2 s2 => ?_⟩
    have e1 : List.range' 1 (i + 1) = List.range' 1 i ++ [1 + i] := by rw [List.range'_concat, Nat.one_mul]
    refine ⟨_, rfl, ite2 (fun c => ?_) (fun c => ?_)⟩
    · refine ⟨_, rfl, _, s2 _ _ hp, szt ?_, same_mut (sm.trans s2) np, ?_⟩
      · have l := List.length_filter_le (isPal b) (List.range' 1 i)
        rw [List.length_range'] at l
        rw [vN_len]
        omega
      · rw [upd_same, e1, List.filter_append, List.filter_cons, if_pos c, vN_app]
        rfl
    · refine ⟨sm.trans s2, ?_⟩
      rw [s2 _ _ hp, e1, List.filter_append, List.filter_cons, if_neg c, List.filter_nil, List.append_nil]
  rintro H1 ⟨s1, hp⟩
  replace hp : H1 p = some (.lst (vN (pals b n))) := hp
  -- found = [0] + [-1] * most
  refine ⟨szl (by show 1 ≤ _; omega), fun z nz => ?_⟩
  have s2 := s1.trans (same_upd (o := .lst [.int 0]) nz)
  refine ⟨1, rfl, szl (by show 1 ≤ _; omega), fun y ny => ?_⟩
  have s3 := s2.trans (same_upd (o := .lst [.int (-1)]) ny)
  have ey := upd_same (H := upd H1 z (.lst [.int 0])) (a := y) (o := .lst [.int (-1)])
  have ez := same_upd (o := .lst [.int (-1)]) ny _ _ (upd_same (H := H1) (a := z) (o := .lst [.int 0]))
  have ep := same_upd (o := .lst [.int (-1)]) ny _ _ (same_upd (o := .lst [.int 0]) nz _ _ hp)
  generalize upd (upd H1 z (.lst [.int 0])) y (.lst [.int (-1)]) = H2 at s3 ey ez ep
  refine ⟨_, rfl, y, (n : Int), _, rfl, rfl, ey, by omega, by omega, szl (by show 1 * _ ≤ _; omega), fun t nt => ?_⟩
  have s4 := s3.trans (same_upd (o := .lst (List.replicate ((n : Int)).toNat [V.int (-1)]).flatten) nt)
  refine ⟨z, t, _, _, rfl, rfl, same_upd nt _ _ ez, upd_same, szl ?_, fun g ng => ?_⟩
  · rw [List.flatten_replicate_singleton, List.length_replicate]
    show 1 + _ ≤ _
    omega
  have s5 := s4.trans (same_upd (o := .lst ([V.int 0] ++ (List.replicate ((n : Int)).toNat [V.int (-1)]).flatten)) ng)
  have ep5 := same_upd (o := .lst ([V.int 0] ++ (List.replicate ((n : Int)).toNat [V.int (-1)]).flatten)) ng _ _ (same_upd (o := .lst (List.replicate ((n : Int)).toNat [V.int (-1)]).flatten) nt _ _ ep)
  have eg := upd_same (H := upd H2 t (.lst (List.replicate ((n : Int)).toNat [V.int (-1)]).flatten)) (a := g) (o := .lst ([V.int 0] ++ (List.replicate ((n : Int)).toNat [V.int (-1)]).flatten))
  have ng0 : H g = none := s4.free ng
  have npg : p ≠ g := ne_of_none (same_upd (o := .lst (List.replicate ((n : Int)).toNat [V.int (-1)]).flatten) nt _ _ ep) ng
  generalize upd (upd H2 t (.lst (List.replicate ((n : Int)).toNat [V.int (-1)]).flatten)) g (.lst ([V.int 0] ++ (List.replicate ((n : Int)).toNat [V.int (-1)]).flatten)) = H3 at s5 ep5 eg
  have eg2 : H3 g = some (.lst (vF b n (lv b 0))) := by
    rw [eg, List.flatten_replicate_singleton]
    unfold vF
    rw [fl_init, List.map_cons, List.map_replicate, Int.toNat_natCast]
    rfl
  -- left = most, many = 0, the while
  refine ⟨_, rfl, ?_⟩
  refine wh (fun f σ H' => ∃ (m : Nat) (v6 v7 v8 : Option V), f = cn n (lv b m) ∧ σ = [some (.int (b : Int)), some (.int (n : Int)), some (.ref p), some (.ref g), some (.int (f : Int)), some (.int (m : Int)), v6, v7, v8] ∧ Same H H' ∧ H' p = some (.lst (vN (pals b n))) ∧ H' g = some (.lst (vF b n (lv b m)))) n
    ⟨0, none, none, none, cn_init.symm, rfl, s5, ep5, eg2⟩ ?_
  · rintro f σ H' ⟨m, v6, v7, v8, hf, rfl, sm, hp', hg'⟩
    refine ⟨_, rfl, _, _, rfl, rfl, _, rfl, ite2 (fun c => ?_) (fun c => ?_)⟩
    · have c' : 0 < f := by have := of_decide_eq_true c; omega
      have less := level_less hb (b := b) (N := n) (m := m) (by omega)
      refine ⟨fun σ' H'' => ∃ (v6 v7 v8 : Option V), σ' = [some (.int (b : Int)), some (.int (n : Int)), some (.ref p), some (.ref g), some (.int ((cn n (lv b (m + 1)) : Nat) : Int)), some (.int ((m + 1 : Nat) : Int)), v6, v7, v8] ∧ Same H H'' ∧ H'' p = some (.lst (vN (pals b n))) ∧ H'' g = some (.lst (vF b n (lv b (m + 1)))),
        fun σ' H'' ⟨w6, w7, w8, h1, h2, h3, h4⟩ => ⟨cn n (lv b (m + 1)), by omega, m + 1, w6, w7, w8, rfl, h1, h2, h3, h4⟩, ?_⟩
      refine ⟨_, rfl, m, 1, rfl, rfl, trivial, ?_⟩
      refine ⟨_, rfl, n, 1, rfl, rfl, trivial, ((n + 1 : Nat) : Int), rfl, by omega, by omega, fun a na => ?_⟩
      have nag : g ≠ a := ne_of_none hg' na
      have nap : p ≠ a := ne_of_none hp' na
      have na0 : H a = none := sm.free na
      refine lc_range (lo := 0) (n := ((n + 1 : Nat) : Int).toNat) (fun i H2 => Same H' H2 ∧ H2 a = some (.lst (vN ((List.range i).filter fun x => decide (need b x = m))))) ⟨same_upd na, upd_same⟩ ?_ ?_
      · rintro i H2 hi ⟨s2, ha⟩
        have e0 : V.int (0 + (i : Int)) = V.int ((i : Nat) : Int) := by rw [Int.zero_add]
        rw [e0]
        refine ⟨rfl, _, rfl, _, rfl, g, _, (i : Int), _, rfl, rfl, SqL.of (s2 _ _ hg'), atI_nat (vF_get (by omega)), _, rfl, m + 1, 1, rfl, rfl, by omega, rfl, _, rfl, ?_⟩
        have iff : (V.int (if lv b m i = true then ((need b i : Nat) : Int) else -1) = V.int ((m + 1 - 1 : Nat) : Int)) ↔ need b i = m := by
          rw [Nat.add_sub_cancel]
          constructor
          · intro e
            have e2 := V.int.inj e
            split at e2 <;> omega
          · intro e
            rw [if_pos (show lv b m i = true from decide_eq_true (by omega)), e]
        refine ite2 (fun c => ?_) (fun c => ?_)
        · have c2 : need b i = m := iff.mp (of_decide_eq_true c)
          refine ⟨_, rfl, _, ha, szt ?_, same_mut s2 na, ?_⟩
          · have l := List.length_filter_le (fun x => decide (need b x = m)) (List.range i)
            rw [List.length_range] at l
            rw [vN_len]
            omega
          · rw [upd_same, List.range_succ, List.filter_append, List.filter_cons, if_pos (decide_eq_true c2), vN_app]
            rfl
        · have c2 : ¬ need b i = m := fun e => c (decide_eq_true (iff.mpr e))
          refine ⟨s2, ?_⟩
          rw [ha, List.range_succ, List.filter_append, List.filter_cons, if_neg (by rw [decide_eq_false c2]; decide), List.filter_nil, List.append_nil]
      rintro H2 ⟨s2, ha⟩
      have en : ((n + 1 : Nat) : Int).toNat = n + 1 := by omega
      rw [en] at ha
      generalize hA : ((List.range (n + 1)).filter fun x => decide (need b x = m)) = A at ha
      have Amem : ∀ x, x ∈ A ↔ x ≤ n ∧ need b x = m := fun x => by
        rw [← hA, List.mem_filter, List.mem_range]
        constructor
        · rintro ⟨h1, h2⟩
          exact ⟨by omega, of_decide_eq_true h2⟩
        · rintro ⟨h1, h2⟩
          exact ⟨by omega, decide_eq_true h2⟩
      refine ⟨_, rfl, a, rfl, ⟨_, SqL.of ha⟩, for_list (K := K) (a := a) (xs := vN A) (fun i σ H2 => ∃ S v7 v8, Lev b n m p g a A H S v7 v8 σ H2 ∧ ∀ j, j < i → ∀ x, A[j]? = some x → ∀ r, r ∈ pals b n → x + r ≤ n → S (x + r) = true)
        ⟨lv b m, v7, v8, ⟨fun _ h => h, fun x h => by have : need b x ≤ m := of_decide_eq_true h; omega, by rw [hf]; rfl, sm.trans s2, s2 _ _ hp', s2 _ _ hg', ha⟩, fun j hj => by omega⟩ ?_ ?_ ?_⟩
      · rintro i σ H4 _ ⟨S, w7, w8, ⟨_, _, _, _, _, _, h⟩, _⟩
        exact SqL.of h
      · rintro i x σ H4 hx ⟨S, w7, w8, ⟨l1, l2, rfl, l3, l4, l5, l6⟩, l7⟩
        obtain ⟨x, hAx, rfl⟩ := vN_of hx
        have xA := (Amem x).mp (List.mem_of_getElem? hAx)
        refine ⟨_, rfl, p, rfl, ⟨_, SqL.of l4⟩, for_list (K := K) (a := p) (xs := vN (pals b n)) (fun k σ H2 => ∃ S v8, Lev b n m p g a A H S (some (.int (x : Int))) v8 σ H2 ∧ (∀ j, j < i → ∀ x, A[j]? = some x → ∀ r, r ∈ pals b n → x + r ≤ n → S (x + r) = true) ∧
            ∀ j, j < k → ∀ r, (pals b n)[j]? = some r → x + r ≤ n → S (x + r) = true)
          ⟨S, w8, ⟨l1, l2, rfl, l3, l4, l5, l6⟩, l7, fun j hj => by omega⟩ ?_ ?_ ?_⟩
        · rintro k σ H5 _ ⟨S, w8, ⟨_, _, _, _, h, _, _⟩, _⟩
          exact SqL.of h
        · rintro k r σ H5 hr5 ⟨S, w8, ⟨l1, l2, rfl, l3, l4, l5, l6⟩, l7, l8⟩
          obtain ⟨r, hpr, rfl⟩ := vN_of hr5
          have rp := pals_mem.mp (List.mem_of_getElem? hpr)
          refine ⟨_, rfl, _, rfl, x, r, rfl, rfl, trivial, _, rfl, _, _, rfl, rfl, _, rfl, ite2 (fun d => ?_) (fun d => ?_)⟩
          · have d1 : ((n : Nat) : Int) < ((x + r : Nat) : Int) := of_decide_eq_true d
            refine ⟨S, _, _, ⟨l1, l2, rfl, l3, l4, l5, l6⟩, fun j hj z hz s hs hle => ?_⟩
            by_cases e : j = i
            · subst e
              rw [hAx] at hz
              cases hz
              obtain ⟨k', hk'⟩ := List.mem_iff_getElem?.mp hs
              by_cases e2 : k' < k
              · exact l8 k' e2 s hk' hle
              · exfalso
                obtain ⟨g1, g2⟩ := List.getElem?_eq_some_iff.mp hk'
                obtain ⟨g3, g4⟩ := List.getElem?_eq_some_iff.mp hpr
                by_cases e3 : k' = k
                · subst e3
                  rw [hk'] at hpr
                  cases hpr
                  omega
                · have := List.pairwise_iff_getElem.mp (pals_rise (b := b) n) k k' g3 g1 (by omega)
                  omega
            · exact l7 j (by omega) z hz s hs hle
          · have d1 : ¬ ((n : Nat) : Int) < ((x + r : Nat) : Int) := fun z => d (decide_eq_true z)
            have hle : x + r ≤ n := by omega
            refine ⟨_, rfl, _, rfl, _, rfl, x, r, rfl, rfl, trivial, g, _, ((x + r : Nat) : Int), _, rfl, rfl, SqL.of l5, atI_nat (vF_get hle), _, _, rfl, rfl, _, rfl, ite2 (fun u => ?_) (fun u => ?_)⟩
            · have u1 : (if S (x + r) = true then ((need b (x + r) : Nat) : Int) else -1) < 0 := of_decide_eq_true u
              have u2 : S (x + r) = false := by
                cases e : S (x + r) with
                | false => rfl
                | true =>
                  rw [if_pos e] at u1
                  omega
              have u3 : need b (x + r) = m + 1 := by
                have a1 := need_le (b := b) (x := x) rp.1 rp.2.2
                have a2 : ¬ need b (x + r) ≤ m := fun z => by
                  have := l1 (x + r) (decide_eq_true z)
                  rw [u2] at this
                  cases this
                omega
              have u4 := cn_set hle u2
              refine ⟨_, rfl, _, rfl, _, rfl, _, rfl, x, r, rfl, rfl, trivial, g, _, ((x + r : Nat) : Int), x + r, rfl, rfl, l5, ixN_nat ?_, ?_⟩
              · unfold vF
                rw [List.length_map, fl_len]
                omega
              refine ⟨_, rfl, cn n S, 1, rfl, rfl, by omega, fun y => S y || y == x + r, some (.int (r : Int)), ⟨fun y hy => by simp [l1 y hy], fun y hy => ?_, ?_, same_mut l3 ng0, ?_, ?_, ?_⟩, fun j hj z hz s hs h => by simp [l7 j hj z hz s hs h], fun j hj s hs h => ?_⟩
              · rcases Bool.or_eq_true _ _ |>.mp hy with h | h
                · exact l2 y h
                · have e : y = x + r := by simpa using h
                  rw [e, u3]
                  exact Nat.le_refl _
              · have e : cn n (fun y => S y || y == x + r) = cn n S - 1 := by omega
                rw [e]
                rfl
              · rw [upd_ne npg]
                exact l4
              · rw [upd_same, ← u3, vF_set hle]
              · rw [upd_ne nag.symm]
                exact l6
              · by_cases e : j = k
                · subst e
                  rw [hpr] at hs
                  cases hs
                  simp
                · simp [l8 j (by omega) s hs h]
            · have u2 : S (x + r) = true := by
                cases e : S (x + r) with
                | true => rfl
                | false =>
                  exfalso
                  refine u (decide_eq_true ?_)
                  rw [if_neg (by rw [e]; decide)]
                  decide
              refine ⟨S, _, ⟨l1, l2, rfl, l3, l4, l5, l6⟩, l7, fun j hj s hs h => ?_⟩
              by_cases e : j = k
              · subst e
                rw [hpr] at hs
                cases hs
                exact u2
              · exact l8 j (by omega) s hs h
        · rintro σ H5 ⟨S, w8, hL, l7, l8⟩
          refine ⟨S, _, _, hL, fun j hj z hz s hs hle => ?_⟩
          by_cases e : j = i
          · subst e
            rw [hAx] at hz
            cases hz
            obtain ⟨k', hk'⟩ := List.mem_iff_getElem?.mp hs
            exact l8 k' (by rw [vN_len]; exact (List.getElem?_eq_some_iff.mp hk').1) s hk' hle
          · exact l7 j (by omega) z hz s hs hle
      · rintro σ H4 ⟨S, w7, w8, ⟨l1, l2, rfl, l3, l4, l5, l6⟩, l7⟩
        have eq := level_done hb (N := n) l1 l2 fun x hx r hr hle => by
          obtain ⟨j, hj⟩ := List.mem_iff_getElem?.mp ((Amem x).mpr ⟨by omega, hx⟩)
          exact l7 j (by rw [vN_len]; exact (List.getElem?_eq_some_iff.mp hj).1) x hj r hr hle
        refine ⟨_, _, _, by rw [← cn_congr eq], l3, l4, ?_⟩
        rw [l5]
        unfold vF
        rw [fl_congr eq]
    · have c' : f = 0 := by have := of_decide_eq_false (Bool.eq_false_iff.mpr c); omega
      refine ⟨_, rfl, q H' g sm ng0 ?_⟩
      rw [hg']
      unfold vF
      rw [fl_all (by omega), vN_int]
end
end Ms


namespace Ms
open PySem PySem.Spec PyProof.Rows L2 MS
/-- two equal lists held in a pair -/
def Held (hd : Addr) (H : Hp) (t : Addr) : Prop := ∃ (l1 l2 : Addr) (L : List Nat), H t = some (.tup [.ref l1, .ref l2]) ∧ H l1 = some (.lst (vN L)) ∧ H l2 = some (.lst (vN L)) ∧ t ≠ hd ∧ l1 ≠ hd ∧ l2 ≠ hd
theorem Held.keep {hd t : Addr} {H H' : Hp} (h : Held hd H t) (k : But hd H H') : Held hd H' t := by
  obtain ⟨l1, l2, L, h1, h2, h3, n1, n2, n3⟩ := h
  exact ⟨l1, l2, L, k _ _ n1 h1, k _ _ n2 h2, k _ _ n3 h3, n1, n2, n3⟩
def spLaw (K : PySem.W.Frag) : Sp := fun vs H Q _ => ∃ (a : Addr) (ns : List Int), vs = [.ref a] ∧ SqL K H a (ns.map V.int) ∧ ns.length ≤ 63 ∧ ∀ H', Q (.bl true) H'
section
variable {P : Program} {w : World} {K : PySem.W.Frag} {mg : Str → Option Value} {base : Heap}
theorem ok_law {f : Addr} {fd : FuncData} (B : Bl mg) (F : Fun K "law" "law" s_law f fd) (UC : Use P w K mg base 1 "_law_cells" ["script", "many"] (spLCells K)) (UH : Use P w K mg base 1 "_law_hand" ["cell", "k"] spLHand)
    (UB : Use P w K mg base 2 "_law_base" ["hand"] spLBase) (UN : Use P w K mg base 2 "_law_number" ["hand", "base", "most"] spLNumber) (UG : Use P w K mg base 2 "_law_great" ["hand", "k", "few", "most"] spLGreat)
    (UF : Use P w K mg base 2 "_law_fewest" ["base", "most"] spLFewest) (UT : Use P w K mg base 5 "table" ["bound", "base"] spTable) (UW : Use P w K mg base 1 "_law_wholes" ["found", "due"] (spLWholes K)) :
    FnOk P w K mg base CX0 6 f fd ["script"] (spLaw K) := by
  refine F.ok c_law (fun vs H Q E h => ?_) (fun cdv A outer s H vs Q E hr h => ?_)
  · obtain ⟨a, ns, rfl, _⟩ := h
    rfl
  obtain ⟨a, ns, rfl, hS, h63, q⟩ := h
  refine ⟨_, (pss_cons (ps_set (i := 1) c_law.nd rfl (.inl rfl) (pe_lst pa_nil))
      (pss_cons (ps_for PassesOwn.never rfl (pi_list (pcall UC hr (pa_cons (pv 0) (pa_cons pe_int pa_nil)))) (pg_tup (by rfl) (pgs_cons (pg_name (i := 2) c_law.nd rfl (.inl rfl)) (pgs_cons (pg_name (i := 3) c_law.nd rfl (.inl rfl)) pgs_nil))) (pss_cons (ps_set (i := 4) c_law.nd rfl (.inl rfl) (pcall UH hr (pa_cons (pv 3) (pa_cons (pv 2) pa_nil))))
      (pss_cons (ps_set (i := 5) c_law.nd rfl (.inl rfl) (pcall UB hr (pa_cons (pv 4) pa_nil)))
      (pss_cons (ps_set (i := 6) c_law.nd rfl (.inl rfl) (pcall UN hr (pa_cons (pv 4) (pa_cons (pv 5) (pa_cons (pcall UG hr (pa_cons (pv 4) (pa_cons (pv 2) (pa_cons pe_int (pa_cons (pe_op op_pow pe_int pe_int) pa_nil))))) pa_nil)))))
      (pss_cons (ps_set (i := 7) c_law.nd rfl (.inl rfl) (pcall UF hr (pa_cons (pv 5) (pa_cons (pv 6) pa_nil))))
      (pss_cons (ps_set (i := 8) c_law.nd rfl (.inl rfl) (pcall UT hr (pa_cons (pv 6) (pa_cons (pv 5) pa_nil))))
      (pss_cons (ps_if (pt_not (pt_val (pcall UW hr (pa_cons (pv 8) (pa_cons (pv 7) pa_nil))))) (pss_one (ps_ret pe_bl)) pss_nil)
      (pss_cons (ps_expr (pe_bm PySem.F.plainAttrs_list PySem.F.slot_list_append PySem.F.type_list_append mt_append (pv 1) (pa_cons (pe_tup (pa_cons (pcall UT hr (pa_cons (pv 6) (pa_cons (pv 5) pa_nil))) (pa_cons (pe_callTy call_list_of (by rfl) B.list (by decide +kernel) (pa_cons (pv 7) pa_nil)) pa_nil))) pa_nil)))
      (pss_cons (ps_expr (pe_bm PySem.F.plainAttrs_list PySem.F.slot_list_append PySem.F.type_list_append mt_append (pv 8) (pa_cons pe_int pa_nil)))
      (pss_cons (ps_expr (pe_bm0 PySem.F.plainAttrs_list PySem.F.slot_list_reverse PySem.F.type_list_reverse mt_reverse (pv 8)))
      (pss_one (ps_if (pt_cmpR (r := rNeD K) (op_neD hr.units) (pcall UT hr (pa_cons (pv 6) (pa_cons (pv 5) pa_nil))) (pv 7) (nomark _)) (pss_one (ps_ret pe_bl)) pss_nil))))))))))))
      (pss_one (ps_ret (pe_and (pe_cmpR (r := rEqD K) (op_eqD hr.units) (pe_lc (own := [("one", 9)]) (g := gName 9) rfl c_law.nd (pi_list (pv 1)) (blkOk_by (N := n_law) (sc := defScope s_law) (by decide +kernel)) (fun _ _ _ _ _ => pg_name (i := 9) c_law.nd rfl (Or.inl rfl)) (fun _ _ _ _ _ => pts_one (pt_cmpR (r := rNeD K) (op_neD hr.units) (pe_ix (r := rIxT K) ix_tup (pv 9) pe_int (fun _ _ => rfl)) (pe_ix (r := rIxT K) ix_tup (pv 9) pe_int (fun _ _ => rfl)) (nomark _))) (fun _ _ _ _ _ => (pv 9))) (pe_lst pa_nil) (nomark _)) (pe_and (pe_cmpR (r := rEqD K) (op_eqD hr.units) (pcall UT hr (pa_cons pe_int (pa_cons pe_int pa_nil))) (pe_lst (pa_cons pe_int pa_nil)) (nomark _)) (pe_one (pe_cmpR (r := rEqD K) (op_eqD hr.units) (pcall UT hr (pa_cons pe_int (pa_cons pe_int pa_nil))) (pe_lst (pa_cons pe_int (pa_cons pe_int (pa_cons pe_int (pa_cons pe_int pa_nil))))) (nomark _))))))))), ?_⟩
  refine ⟨szl (by show 0 ≤ _; omega), fun hd nh => ?_⟩
  have s0 := same_upd (o := .lst []) nh
  refine ⟨_, rfl, a, ns, 3, rfl, s0.seq hS, h63, fun H1 cp ts cs s1 nc hc hlen hle hat => ?_⟩
  have hh1 : H1 hd = some (.lst []) := s1 _ _ upd_same
  have ncp : cp ≠ hd := fun e => by rw [e, upd_same] at nc; cases nc
  refine ⟨cp, rfl, ⟨_, SqL.of hc⟩, for_list (K := K) (a := cp) (xs := ts.map V.ref) (fun i σ H' => ∃ (hs : List Addr) (v2 v3 v4 v5 v6 v7 v8 : Option V), σ = [some (.ref a), some (.ref hd), v2, v3, v4, v5, v6, v7, v8, none] ∧
    But hd H1 H' ∧ H' hd = some (.lst (hs.map V.ref)) ∧ hs.length = i ∧ ∀ t, t ∈ hs → Held hd H' t) ⟨[], none, none, none, none, none, none, none, rfl, But.refl _ _, hh1, rfl, fun t ht => by cases ht⟩ ?_ ?_ ?_⟩
  · rintro i σ H' _ ⟨_, _, _, _, _, _, _, _, _, k, _⟩
    exact SqL.of (k _ _ ncp hc)
  · rintro i x σ H' hx ⟨hs, v2, v3, v4, v5, v6, v7, v8, rfl, k, hh, hsl, hgood⟩
    obtain ⟨t, ht, rfl⟩ : ∃ t, ts[i]? = some t ∧ x = .ref t := by
      rw [List.getElem?_map] at hx
      cases e : ts[i]? with
      | none =>
        rw [e] at hx
        cases hx
      | some t =>
        rw [e] at hx
        exact ⟨t, rfl, (Option.some.inj hx).symm⟩
    have hi : i < cs.length := by
      have := (List.getElem?_eq_some_iff.mp ht).1
      omega
    have ec := List.getElem?_eq_getElem hi
    have h1t := hat i _ t ec ht
    have nt : t ≠ hd := ne_of h1t hh1 (by intro z; cases z)
    refine ⟨t, _, rfl, SqT.of (k _ _ nt h1t), rfl, _, _, rfl, _, _, rfl, rfl, ?_⟩
    refine ⟨_, rfl, _, rfl, _, i, rfl, by omega, fun H2 p s2 np hp => ?_⟩
    refine ⟨_, rfl, p, rfl, hp, fun H3 b b3 h3 hB => ?_⟩
    refine ⟨_, rfl, _, rfl, _, rfl, _, rfl, 10, 4, rfl, rfl, ⟨by omega, by omega, by decide⟩, p, i, 600, 10000, rfl, h3, fun H4 m b4 h4 hm => ?_⟩
    refine ⟨p, b, m, rfl, hB, by omega, by omega, h4, fun H5 n b5 h5 hn => ?_⟩
    have A5 : Same H' H5 := But.same s2 (b3.trans (b4.trans b5)) np
    refine ⟨_, rfl, _, rfl, b, n, rfl, hB, by omega, fun H6 d s6 nd hd6 => ?_⟩
    refine ⟨_, rfl, _, rfl, n, b, rfl, hB, by omega, fun H7 t7 s7 n7 h7 => ?_⟩
    have A6 := A5.trans s6
    have A7 := A6.trans s7
    have nd7 : d ≠ t7 := ne_of_none hd6 n7
    refine ⟨_, rfl, _, rfl, t7, d, tab b n, rfl, h7, SqL.of (s7 _ _ hd6), fun H8 s8 => ⟨true, rfl, iteF ?_⟩⟩
    have A8 := A7.trans s8
    have hh8 := A8 _ _ hh
    refine ⟨_, rfl, .inl ⟨rfl, _, SqL.of hh8⟩, _, rfl, _, rfl, n, b, rfl, hB, by omega, fun H9 l1 s9 n9 h9 => ?_⟩
    have d9 : H9 d = some (.lst (vN (tab b n))) := s9 _ _ (s8 _ _ (s7 _ _ hd6))
    have t9 : H9 t7 = some (.lst (vN (tab b n))) := s9 _ _ (s8 _ _ h7)
    refine ⟨_, rfl, d, _, rfl, .inl (SqL.of d9), fun l2 n2 => ⟨szl (by show 2 ≤ _; omega), fun u nu => ?_⟩⟩
    have g1 := same_upd (o := .lst (vN (tab b n))) n2
    have g2 := g1.trans (same_upd (o := .tup [.ref l1, .ref l2]) nu)
    have A9 := A8.trans s9
    have hhu := g2 _ _ (s9 _ _ hh8)
    have e1 := g2 _ _ h9
    have e2 := same_upd (o := .tup [.ref l1, .ref l2]) nu _ _ (upd_same (H := H9) (a := l2) (o := .lst (vN (tab b n))))
    have eu := upd_same (H := upd H9 l2 (.lst (vN (tab b n)))) (a := u) (o := .tup [.ref l1, .ref l2])
    have ed := g2 _ _ d9
    have et := g2 _ _ t9
    have nuh : u ≠ hd := fun z => by
      have := g1 _ _ (s9 _ _ hh8)
      rw [← z, nu] at this
      cases this
    have n1h : l1 ≠ hd := fun z => by
      rw [z] at n9
      rw [hh8] at n9
      cases n9
    have n2h : l2 ≠ hd := fun z => by
      rw [z, s9 _ _ hh8] at n2
      cases n2
    have n17 : l1 ≠ t7 := fun z => by
      rw [z, s8 _ _ h7] at n9
      cases n9
    have n27 : l2 ≠ t7 := fun z => by
      rw [z, t9] at n2
      cases n2
    have nu7 : u ≠ t7 := fun z => by
      have := g1 _ _ t9
      rw [← z, nu] at this
      cases this
    have nd1 : d ≠ hd := fun z => by
      rw [z, A5 _ _ hh] at nd
      cases nd
    have n7h : t7 ≠ hd := fun z => by
      rw [z, A6 _ _ hh] at n7
      cases n7
    have A10 := A9.trans g2
    generalize upd (upd H9 l2 (.lst (vN (tab b n)))) u (.tup [.ref l1, .ref l2]) = G at A10 hhu e1 e2 eu ed et
    refine ⟨hd, _, _, rfl, rfl, hhu, szt ?_, ?_⟩
    · rw [List.length_map]
      omega
    have et2 : (upd G hd (.lst (hs.map V.ref ++ [.ref u]))) t7 = some (.lst (vN (tab b n))) := (upd_ne n7h).trans et
    refine ⟨_, rfl, .inl ⟨rfl, _, SqL.of et2⟩, t7, _, _, rfl, rfl, et2, szt ?_, ?_⟩
    · rw [vN_len, tab_len]
      omega
    refine ⟨_, rfl, .inl ⟨rfl, _, SqL.of upd_same⟩, t7, _, rfl, rfl, upd_same, ?_⟩
    refine ⟨_, rfl, _, rfl, n, b, rfl, hB, by omega, fun Hz l3 sz nz hz => ?_⟩
    have last : ∀ c o, c ≠ hd → c ≠ t7 → G c = some o → Hz c = some o := fun c o n1 n2 e => sz c o (by rw [upd_ne n2, upd_ne n2, upd_ne n1]; exact e)
    refine ⟨_, rfl, _, _, dp_n (SqL.of hz), dp_n (SqL.of (last _ _ nd1 nd7 ed)), sh_int _, sh_int _, ?_⟩
    rw [eqv_n, decide_eq_true rfl]
    refine ⟨false, rfl, iteF ?_⟩
    have kk : But hd H' Hz := fun c o nch e => last c o nch (fun z => by rw [z, A6.free n7] at e; cases e) (A10 _ _ e)
    refine ⟨hs ++ [u], _, _, _, _, _, _, _, rfl, k.trans kk, ?_, by rw [List.length_append, hsl]; rfl, fun c hc => ?_⟩
    · refine sz hd _ ?_
      rw [upd_ne n7h.symm, upd_ne n7h.symm, upd_same, List.map_append]
      rfl
    · rcases List.mem_append.mp hc with hc | hc
      · exact (hgood c hc).keep kk
      · rw [List.mem_singleton.mp hc]
        exact ⟨l1, l2, tab b n, last _ _ nuh nu7 eu, last _ _ n1h n17 e1, last _ _ n2h n27 e2, nuh, n1h, n2h⟩
  · rintro σ H' ⟨hs, v2, v3, v4, v5, v6, v7, v8, rfl, k, hh, hsl, hgood⟩
    refine ⟨_, rfl, hd, rfl, ⟨_, SqL.of hh⟩, fun D nD => ?_⟩
    have sD := same_upd (o := .lst (vN [])) nD
    refine lc_list (K := K) (a := hd) (xs := hs.map V.ref) (fun i H2 => H2 = upd H' D (.lst (vN []))) rfl (fun i H2 _ e => SqL.of (by rw [e]; exact sD _ _ hh)) ?_ ?_
    · rintro i x H2 hx rfl
      obtain ⟨t, ht, rfl⟩ : ∃ t, hs[i]? = some t ∧ x = .ref t := by
        rw [List.getElem?_map] at hx
        cases e : hs[i]? with
        | none =>
          rw [e] at hx
          cases hx
        | some t =>
          rw [e] at hx
          exact ⟨t, rfl, (Option.some.inj hx).symm⟩
      obtain ⟨l1, l2, L, h1, h2, h3, _⟩ := hgood t (List.mem_of_getElem? ht)
      refine ⟨rfl, _, rfl, t, _, 0, .ref l1, rfl, rfl, SqT.of (sD _ _ h1), atI_nat (j := 0) rfl, _, rfl, t, _, 1, .ref l2, rfl, rfl, SqT.of (sD _ _ h1), atI_nat (j := 1) rfl, ?_⟩
      refine ⟨_, _, dp_n (SqL.of (sD _ _ h2)), dp_n (SqL.of (sD _ _ h3)), sh_int _, sh_int _, ?_⟩
      rw [eqv_n, decide_eq_true rfl]
      exact ⟨false, rfl, iteF rfl⟩
    · rintro H2 rfl
      refine ⟨szl (by show 0 ≤ _; omega), fun r nr => ?_⟩
      have s2 := same_upd (o := .lst []) nr
      refine ⟨_, _, dp_n (l := []) (SqL.of (s2 _ _ upd_same)), dp_n (l := []) (SqL.of upd_same), sh_int _, sh_int _, ?_⟩
      rw [eqv_n, decide_eq_true rfl]
      refine ⟨true, rfl, iteT ?_⟩
      refine ⟨0, 10, rfl, ⟨by omega, by omega⟩, by omega, fun H3 l sl nl hl => ?_⟩
      refine ⟨szl (by show 1 ≤ _; omega), fun r2 nr2 => ?_⟩
      refine ⟨_, _, dp_n (SqL.of (same_upd nr2 _ _ hl)), dp_n (l := [0]) (SqL.of upd_same), sh_int _, sh_int _, ?_⟩
      rw [eqv_n, decide_eq_true tab_zero]
      refine ⟨true, rfl, iteT ?_⟩
      refine ⟨3, 2, rfl, ⟨by omega, by omega⟩, by omega, fun H4 l4 sl4 nl4 hl4 => ?_⟩
      refine ⟨szl (by show 4 ≤ _; omega), fun r4 nr4 => ?_⟩
      refine ⟨_, _, dp_n (SqL.of (same_upd nr4 _ _ hl4)), dp_n (l := [0, 1, 2, 1]) (SqL.of upd_same), sh_int _, sh_int _, ?_⟩
      rw [eqv_n, decide_eq_true tab_2_3]
      exact q _
end
end Ms


namespace Ms
open PySem PySem.Spec PyProof.Rows L2 MS
theorem def_mk {K : PySem.W.Frag} {mg : Str → Option Value} {h : Heap} {x : Str} {st : Stmt} {ps : List Str} {f : Addr} {oc : Value} {od an : Option Addr} {osl : Array (Option Value)} {kV doc pm cdv ct : Value} (X : K.In h) (G : h.Ns mainGlobals mg)
    (a : PySem.W.nsIn K mainGlobals x = some (some (.ref f))) (l : K.lookup f = some ⟨oc, od, .func (PySem.W.fnOf x x (defArgs st) (defBody st) (defScope st) .none kV doc pm an cdv ct), osl⟩)
    (c : PySem.W.codeIn K cdv x = true) (k : PySem.W.keepIn K (.ref f) = true)
    (hb : ∀ (kV doc pm : Value) (an : Option Addr) (cdv ct : Value) (us : List Value), us.length = ps.length → bindArgs (PySem.W.fnOf x x (defArgs st) (defBody st) (defScope st) .none kV doc pm an cdv ct) ⟨us, []⟩ = pure (ps.zip us)) : Def K mg x st ps :=
  ⟨f, _, fun_mk l c k, PySem.W.mg_of X G a, (fun_mk (st := st) l c k).binds hb⟩
theorem all_mk {l : PySem.W.OpenLaw} {w : World} {K : PySem.W.Frag} {h : Heap} {mg : Str → Option Value} {fa : Addr} (X : K.In h) (G : h.Ns mainGlobals mg) (hfa : mg "law" = some (.ref fa))
    {f0 f1 f2 f3 f4 f5 f6 f7 f8 f9 f10 f11 f12 f13 f14 f15 f16 f17 f18 f19 f20 f21 : Addr} {od0 an0 od1 an1 od2 an2 od3 an3 od4 an4 od5 an5 od6 an6 od7 an7 od8 an8 od9 an9 od10 an10 od11 an11 od12 an12 od13 an13 od14 an14 od15 an15 od16 an16 od17 an17 od18 an18 od19 an19 od20 an20 od21 an21 : Option Addr} {sl0 sl1 sl2 sl3 sl4 sl5 sl6 sl7 sl8 sl9 sl10 sl11 sl12 sl13 sl14 sl15 sl16 sl17 sl18 sl19 sl20 sl21 : Array (Option Value)}
    {oc0 kV0 dc0 pm0 cd0 ct0 oc1 kV1 dc1 pm1 cd1 ct1 oc2 kV2 dc2 pm2 cd2 ct2 oc3 kV3 dc3 pm3 cd3 ct3 oc4 kV4 dc4 pm4 cd4 ct4 oc5 kV5 dc5 pm5 cd5 ct5 oc6 kV6 dc6 pm6 cd6 ct6 oc7 kV7 dc7 pm7 cd7 ct7 oc8 kV8 dc8 pm8 cd8 ct8 oc9 kV9 dc9 pm9 cd9 ct9 oc10 kV10 dc10 pm10 cd10 ct10 oc11 kV11 dc11 pm11 cd11 ct11 oc12 kV12 dc12 pm12 cd12 ct12 oc13 kV13 dc13 pm13 cd13 ct13 oc14 kV14 dc14 pm14 cd14 ct14 oc15 kV15 dc15 pm15 cd15 ct15 oc16 kV16 dc16 pm16 cd16 ct16 oc17 kV17 dc17 pm17 cd17 ct17 oc18 kV18 dc18 pm18 cd18 ct18 oc19 kV19 dc19 pm19 cd19 ct19 oc20 kV20 dc20 pm20 cd20 ct20 oc21 kV21 dc21 pm21 cd21 ct21 : Value}
    (a0 : PySem.W.nsIn K mainGlobals "is_whole" = some (some (.ref f0))) (l0 : K.lookup f0 = some ⟨oc0, od0, .func (PySem.W.fnOf "is_whole" "is_whole" (defArgs s_is_whole) (defBody s_is_whole) (defScope s_is_whole) .none kV0 dc0 pm0 an0 cd0 ct0), sl0⟩) (c0 : PySem.W.codeIn K cd0 "is_whole" = true) (k0 : PySem.W.keepIn K (.ref f0) = true)
    (a1 : PySem.W.nsIn K mainGlobals "need_base" = some (some (.ref f1))) (l1 : K.lookup f1 = some ⟨oc1, od1, .func (PySem.W.fnOf "need_base" "need_base" (defArgs s_need_base) (defBody s_need_base) (defScope s_need_base) .none kV1 dc1 pm1 an1 cd1 ct1), sl1⟩) (c1 : PySem.W.codeIn K cd1 "need_base" = true) (k1 : PySem.W.keepIn K (.ref f1) = true)
    (a2 : PySem.W.nsIn K mainGlobals "figures_of" = some (some (.ref f2))) (l2 : K.lookup f2 = some ⟨oc2, od2, .func (PySem.W.fnOf "figures_of" "figures_of" (defArgs s_figures_of) (defBody s_figures_of) (defScope s_figures_of) .none kV2 dc2 pm2 an2 cd2 ct2), sl2⟩) (c2 : PySem.W.codeIn K cd2 "figures_of" = true) (k2 : PySem.W.keepIn K (.ref f2) = true)
    (a3 : PySem.W.nsIn K mainGlobals "put_together" = some (some (.ref f3))) (l3 : K.lookup f3 = some ⟨oc3, od3, .func (PySem.W.fnOf "put_together" "put_together" (defArgs s_put_together) (defBody s_put_together) (defScope s_put_together) .none kV3 dc3 pm3 an3 cd3 ct3), sl3⟩) (c3 : PySem.W.codeIn K cd3 "put_together" = true) (k3 : PySem.W.keepIn K (.ref f3) = true)
    (a4 : PySem.W.nsIn K mainGlobals "power_of" = some (some (.ref f4))) (l4 : K.lookup f4 = some ⟨oc4, od4, .func (PySem.W.fnOf "power_of" "power_of" (defArgs s_power_of) (defBody s_power_of) (defScope s_power_of) .none kV4 dc4 pm4 an4 cd4 ct4), sl4⟩) (c4 : PySem.W.codeIn K cd4 "power_of" = true) (k4 : PySem.W.keepIn K (.ref f4) = true)
    (a5 : PySem.W.nsIn K mainGlobals "half_of" = some (some (.ref f5))) (l5 : K.lookup f5 = some ⟨oc5, od5, .func (PySem.W.fnOf "half_of" "half_of" (defArgs s_half_of) (defBody s_half_of) (defScope s_half_of) .none kV5 dc5 pm5 an5 cd5 ct5), sl5⟩) (c5 : PySem.W.codeIn K cd5 "half_of" = true) (k5 : PySem.W.keepIn K (.ref f5) = true)
    (a6 : PySem.W.nsIn K mainGlobals "mirror_of" = some (some (.ref f6))) (l6 : K.lookup f6 = some ⟨oc6, od6, .func (PySem.W.fnOf "mirror_of" "mirror_of" (defArgs s_mirror_of) (defBody s_mirror_of) (defScope s_mirror_of) .none kV6 dc6 pm6 an6 cd6 ct6), sl6⟩) (c6 : PySem.W.codeIn K cd6 "mirror_of" = true) (k6 : PySem.W.keepIn K (.ref f6) = true)
    (a7 : PySem.W.nsIn K mainGlobals "many_of_size" = some (some (.ref f7))) (l7 : K.lookup f7 = some ⟨oc7, od7, .func (PySem.W.fnOf "many_of_size" "many_of_size" (defArgs s_many_of_size) (defBody s_many_of_size) (defScope s_many_of_size) .none kV7 dc7 pm7 an7 cd7 ct7), sl7⟩) (c7 : PySem.W.codeIn K cd7 "many_of_size" = true) (k7 : PySem.W.keepIn K (.ref f7) = true)
    (a8 : PySem.W.nsIn K mainGlobals "many_to" = some (some (.ref f8))) (l8 : K.lookup f8 = some ⟨oc8, od8, .func (PySem.W.fnOf "many_to" "many_to" (defArgs s_many_to) (defBody s_many_to) (defScope s_many_to) .none kV8 dc8 pm8 an8 cd8 ct8), sl8⟩) (c8 : PySem.W.codeIn K cd8 "many_to" = true) (k8 : PySem.W.keepIn K (.ref f8) = true)
    (a9 : PySem.W.nsIn K mainGlobals "mirrored_at" = some (some (.ref f9))) (l9 : K.lookup f9 = some ⟨oc9, od9, .func (PySem.W.fnOf "mirrored_at" "mirrored_at" (defArgs s_mirrored_at) (defBody s_mirrored_at) (defScope s_mirrored_at) .none kV9 dc9 pm9 an9 cd9 ct9), sl9⟩) (c9 : PySem.W.codeIn K cd9 "mirrored_at" = true) (k9 : PySem.W.keepIn K (.ref f9) = true)
    (a10 : PySem.W.nsIn K mainGlobals "mirrored_to" = some (some (.ref f10))) (l10 : K.lookup f10 = some ⟨oc10, od10, .func (PySem.W.fnOf "mirrored_to" "mirrored_to" (defArgs s_mirrored_to) (defBody s_mirrored_to) (defScope s_mirrored_to) .none kV10 dc10 pm10 an10 cd10 ct10), sl10⟩) (c10 : PySem.W.codeIn K cd10 "mirrored_to" = true) (k10 : PySem.W.keepIn K (.ref f10) = true)
    (a11 : PySem.W.nsIn K mainGlobals "table" = some (some (.ref f11))) (l11 : K.lookup f11 = some ⟨oc11, od11, .func (PySem.W.fnOf "table" "table" (defArgs s_table) (defBody s_table) (defScope s_table) .none kV11 dc11 pm11 an11 cd11 ct11), sl11⟩) (c11 : PySem.W.codeIn K cd11 "table" = true) (k11 : PySem.W.keepIn K (.ref f11) = true)
    (a12 : PySem.W.nsIn K mainGlobals "_law_hand" = some (some (.ref f12))) (l12 : K.lookup f12 = some ⟨oc12, od12, .func (PySem.W.fnOf "_law_hand" "_law_hand" (defArgs s_law_hand) (defBody s_law_hand) (defScope s_law_hand) .none kV12 dc12 pm12 an12 cd12 ct12), sl12⟩) (c12 : PySem.W.codeIn K cd12 "_law_hand" = true) (k12 : PySem.W.keepIn K (.ref f12) = true)
    (a13 : PySem.W.nsIn K mainGlobals "_law_draw" = some (some (.ref f13))) (l13 : K.lookup f13 = some ⟨oc13, od13, .func (PySem.W.fnOf "_law_draw" "_law_draw" (defArgs s_law_draw) (defBody s_law_draw) (defScope s_law_draw) .none kV13 dc13 pm13 an13 cd13 ct13), sl13⟩) (c13 : PySem.W.codeIn K cd13 "_law_draw" = true) (k13 : PySem.W.keepIn K (.ref f13) = true)
    (a14 : PySem.W.nsIn K mainGlobals "_law_cells" = some (some (.ref f14))) (l14 : K.lookup f14 = some ⟨oc14, od14, .func (PySem.W.fnOf "_law_cells" "_law_cells" (defArgs s_law_cells) (defBody s_law_cells) (defScope s_law_cells) .none kV14 dc14 pm14 an14 cd14 ct14), sl14⟩) (c14 : PySem.W.codeIn K cd14 "_law_cells" = true) (k14 : PySem.W.keepIn K (.ref f14) = true)
    (a15 : PySem.W.nsIn K mainGlobals "_law_base" = some (some (.ref f15))) (l15 : K.lookup f15 = some ⟨oc15, od15, .func (PySem.W.fnOf "_law_base" "_law_base" (defArgs s_law_base) (defBody s_law_base) (defScope s_law_base) .none kV15 dc15 pm15 an15 cd15 ct15), sl15⟩) (c15 : PySem.W.codeIn K cd15 "_law_base" = true) (k15 : PySem.W.keepIn K (.ref f15) = true)
    (a16 : PySem.W.nsIn K mainGlobals "_law_number" = some (some (.ref f16))) (l16 : K.lookup f16 = some ⟨oc16, od16, .func (PySem.W.fnOf "_law_number" "_law_number" (defArgs s_law_number) (defBody s_law_number) (defScope s_law_number) .none kV16 dc16 pm16 an16 cd16 ct16), sl16⟩) (c16 : PySem.W.codeIn K cd16 "_law_number" = true) (k16 : PySem.W.keepIn K (.ref f16) = true)
    (a17 : PySem.W.nsIn K mainGlobals "_law_is" = some (some (.ref f17))) (l17 : K.lookup f17 = some ⟨oc17, od17, .func (PySem.W.fnOf "_law_is" "_law_is" (defArgs s_law_is) (defBody s_law_is) (defScope s_law_is) .none kV17 dc17 pm17 an17 cd17 ct17), sl17⟩) (c17 : PySem.W.codeIn K cd17 "_law_is" = true) (k17 : PySem.W.keepIn K (.ref f17) = true)
    (a18 : PySem.W.nsIn K mainGlobals "_law_great" = some (some (.ref f18))) (l18 : K.lookup f18 = some ⟨oc18, od18, .func (PySem.W.fnOf "_law_great" "_law_great" (defArgs s_law_great) (defBody s_law_great) (defScope s_law_great) .none kV18 dc18 pm18 an18 cd18 ct18), sl18⟩) (c18 : PySem.W.codeIn K cd18 "_law_great" = true) (k18 : PySem.W.keepIn K (.ref f18) = true)
    (a19 : PySem.W.nsIn K mainGlobals "_law_fewest" = some (some (.ref f19))) (l19 : K.lookup f19 = some ⟨oc19, od19, .func (PySem.W.fnOf "_law_fewest" "_law_fewest" (defArgs s_law_fewest) (defBody s_law_fewest) (defScope s_law_fewest) .none kV19 dc19 pm19 an19 cd19 ct19), sl19⟩) (c19 : PySem.W.codeIn K cd19 "_law_fewest" = true) (k19 : PySem.W.keepIn K (.ref f19) = true)
    (a20 : PySem.W.nsIn K mainGlobals "_law_wholes" = some (some (.ref f20))) (l20 : K.lookup f20 = some ⟨oc20, od20, .func (PySem.W.fnOf "_law_wholes" "_law_wholes" (defArgs s_law_wholes) (defBody s_law_wholes) (defScope s_law_wholes) .none kV20 dc20 pm20 an20 cd20 ct20), sl20⟩) (c20 : PySem.W.codeIn K cd20 "_law_wholes" = true) (k20 : PySem.W.keepIn K (.ref f20) = true)
    (a21 : PySem.W.nsIn K mainGlobals "law" = some (some (.ref f21))) (l21 : K.lookup f21 = some ⟨oc21, od21, .func (PySem.W.fnOf "law" "law" (defArgs s_law) (defBody s_law) (defScope s_law) .none kV21 dc21 pm21 an21 cd21 ct21), sl21⟩) (c21 : PySem.W.codeIn K cd21 "law" = true) (k21 : PySem.W.keepIn K (.ref f21) = true)
    (z0 : PySem.W.nsIn K mainGlobals "len" = some none) (z1 : PySem.W.nsIn K mainGlobals "range" = some none) (z2 : PySem.W.nsIn K mainGlobals "isinstance" = some none) (z3 : PySem.W.nsIn K mainGlobals "int" = some none) (z4 : PySem.W.nsIn K mainGlobals "bool" = some none) (z5 : PySem.W.nsIn K mainGlobals "list" = some none) (z6 : PySem.W.nsIn K mainGlobals "enumerate" = some none) (z7 : PySem.W.nsIn K mainGlobals "sum" = some none) (z8 : PySem.W.nsIn K mainGlobals "min" = some none) (z9 : PySem.W.nsIn K mainGlobals "max" = some none) (z10 : PySem.W.nsIn K mainGlobals "sorted" = some none) (z11 : PySem.W.nsIn K mainGlobals "dict" = some none) (z12 : PySem.W.nsIn K mainGlobals "zip" = some none) :
    ∃ fd : FuncData, (∀ (s : Shared) (v : Value), BindsTo s fd ⟨[v], []⟩ [("script", v)]) ∧ ∀ base : Heap, K.In base → base.Ns mainGlobals mg → FnOk l.prog w K mg base CX0 6 fa fd ["script"] (spLaw K) := by
  have e := hfa.symm.trans (PySem.W.mg_of X G a21)
  cases e
  have D_is_whole : Def K mg "is_whole" s_is_whole ["thing"] := def_mk X G a0 l0 c0 k0 fun _ _ _ _ _ _ us hl => match us, hl with | [_], _ => rfl
  have D_need_base : Def K mg "need_base" s_need_base ["base"] := def_mk X G a1 l1 c1 k1 fun _ _ _ _ _ _ us hl => match us, hl with | [_], _ => rfl
  have D_figures_of : Def K mg "figures_of" s_figures_of ["number", "base"] := def_mk X G a2 l2 c2 k2 fun _ _ _ _ _ _ us hl => match us, hl with | [_, _], _ => rfl
  have D_put_together : Def K mg "put_together" s_put_together ["some", "base"] := def_mk X G a3 l3 c3 k3 fun _ _ _ _ _ _ us hl => match us, hl with | [_, _], _ => rfl
  have D_power_of : Def K mg "power_of" s_power_of ["base", "many"] := def_mk X G a4 l4 c4 k4 fun _ _ _ _ _ _ us hl => match us, hl with | [_, _], _ => rfl
  have D_half_of : Def K mg "half_of" s_half_of ["number", "base"] := def_mk X G a5 l5 c5 k5 fun _ _ _ _ _ _ us hl => match us, hl with | [_, _], _ => rfl
  have D_mirror_of : Def K mg "mirror_of" s_mirror_of ["half", "size", "base"] := def_mk X G a6 l6 c6 k6 fun _ _ _ _ _ _ us hl => match us, hl with | [_, _, _], _ => rfl
  have D_many_of_size : Def K mg "many_of_size" s_many_of_size ["size", "base"] := def_mk X G a7 l7 c7 k7 fun _ _ _ _ _ _ us hl => match us, hl with | [_, _], _ => rfl
  have D_many_to : Def K mg "many_to" s_many_to ["number", "base"] := def_mk X G a8 l8 c8 k8 fun _ _ _ _ _ _ us hl => match us, hl with | [_, _], _ => rfl
  have D_mirrored_at : Def K mg "mirrored_at" s_mirrored_at ["place", "base"] := def_mk X G a9 l9 c9 k9 fun _ _ _ _ _ _ us hl => match us, hl with | [_, _], _ => rfl
  have D_mirrored_to : Def K mg "mirrored_to" s_mirrored_to ["number", "base"] := def_mk X G a10 l10 c10 k10 fun _ _ _ _ _ _ us hl => match us, hl with | [_, _], _ => rfl
  have D_table : Def K mg "table" s_table ["bound", "base"] := def_mk X G a11 l11 c11 k11 fun _ _ _ _ _ _ us hl => match us, hl with | [_, _], _ => rfl
  have D_law_hand : Def K mg "_law_hand" s_law_hand ["cell", "k"] := def_mk X G a12 l12 c12 k12 fun _ _ _ _ _ _ us hl => match us, hl with | [_, _], _ => rfl
  have D_law_draw : Def K mg "_law_draw" s_law_draw ["hand", "limit"] := def_mk X G a13 l13 c13 k13 fun _ _ _ _ _ _ us hl => match us, hl with | [_, _], _ => rfl
  have D_law_cells : Def K mg "_law_cells" s_law_cells ["script", "many"] := def_mk X G a14 l14 c14 k14 fun _ _ _ _ _ _ us hl => match us, hl with | [_, _], _ => rfl
  have D_law_base : Def K mg "_law_base" s_law_base ["hand"] := def_mk X G a15 l15 c15 k15 fun _ _ _ _ _ _ us hl => match us, hl with | [_], _ => rfl
  have D_law_number : Def K mg "_law_number" s_law_number ["hand", "base", "most"] := def_mk X G a16 l16 c16 k16 fun _ _ _ _ _ _ us hl => match us, hl with | [_, _, _], _ => rfl
  have D_law_is : Def K mg "_law_is" s_law_is ["number", "base"] := def_mk X G a17 l17 c17 k17 fun _ _ _ _ _ _ us hl => match us, hl with | [_, _], _ => rfl
  have D_law_great : Def K mg "_law_great" s_law_great ["hand", "k", "few", "most"] := def_mk X G a18 l18 c18 k18 fun _ _ _ _ _ _ us hl => match us, hl with | [_, _, _, _], _ => rfl
  have D_law_fewest : Def K mg "_law_fewest" s_law_fewest ["base", "most"] := def_mk X G a19 l19 c19 k19 fun _ _ _ _ _ _ us hl => match us, hl with | [_, _], _ => rfl
  have D_law_wholes : Def K mg "_law_wholes" s_law_wholes ["found", "due"] := def_mk X G a20 l20 c20 k20 fun _ _ _ _ _ _ us hl => match us, hl with | [_, _], _ => rfl
  have FL := fun_mk (st := s_law) l21 c21 k21
  have B : Bl mg := ⟨PySem.W.mg_none_of X G z0, PySem.W.mg_none_of X G z1, PySem.W.mg_none_of X G z2, PySem.W.mg_none_of X G z3, PySem.W.mg_none_of X G z4, PySem.W.mg_none_of X G z5, PySem.W.mg_none_of X G z6, PySem.W.mg_none_of X G z7, PySem.W.mg_none_of X G z8, PySem.W.mg_none_of X G z9, PySem.W.mg_none_of X G z10, PySem.W.mg_none_of X G z11, PySem.W.mg_none_of X G z12⟩
  refine ⟨PySem.W.fnOf "law" "law" (defArgs s_law) (defBody s_law) (defScope s_law) .none kV21 dc21 pm21 an21 cd21 ct21, fun s v => .of_eq rfl, fun base _ _ => ?_⟩
  have U_is_whole := ok_is_whole (P := l.prog) (w := w) (base := base) B D_is_whole
  have U_need_base := ok_need_base (P := l.prog) (w := w) (base := base) D_need_base U_is_whole
  have U_figures_of := ok_figures_of (P := l.prog) (w := w) (base := base) D_figures_of
  have U_put_together := ok_put_together (P := l.prog) (w := w) (base := base) D_put_together
  have U_power_of := ok_power_of (P := l.prog) (w := w) (base := base) B D_power_of
  have U_half_of := ok_half_of B D_half_of U_figures_of U_put_together
  have U_mirror_of := ok_mirror_of D_mirror_of U_figures_of U_put_together
  have U_many_of_size := ok_many_of_size D_many_of_size U_power_of
  have U_many_to := ok_many_to B D_many_to U_need_base U_half_of U_power_of U_mirror_of U_many_of_size
  have U_mirrored_at := ok_mirrored_at D_mirrored_at U_need_base U_power_of U_mirror_of U_many_of_size
  have U_mirrored_to := ok_mirrored_to B D_mirrored_to U_mirrored_at U_many_to
  have U_table := ok_table B D_table U_mirrored_to
  have U_hand := ok_law_hand (P := l.prog) (w := w) (base := base) D_law_hand
  have U_draw := ok_law_draw (P := l.prog) (w := w) (base := base) D_law_draw
  have U_cells := ok_law_cells (P := l.prog) (w := w) (base := base) B D_law_cells
  have U_base := ok_law_base B D_law_base U_draw
  have U_number := ok_law_number B D_law_number U_draw
  have U_is := ok_law_is (P := l.prog) (w := w) (base := base) D_law_is
  have U_great := ok_law_great B D_law_great U_draw
  have U_fewest := ok_law_fewest B D_law_fewest U_is
  have U_wholes := ok_law_wholes (P := l.prog) (w := w) (base := base) B D_law_wholes
  exact ok_law B FL U_cells U_hand U_base U_number U_great U_fewest U_table U_wholes
end Ms
open PySem PySem.W PyProof.Rows
set_option maxRecDepth 100000 in
set_option maxHeartbeats 0 in
theorem PySem.Challenge.cw_mirrorsums_k28_tables_told_holds : PySem.Challenge.rw_mirrorsums_k28_tables_told.Holds := by
  w_on; o_law; k_head; (case hw => w_witness2)
  k_fill
  refine L2.walk_of (l := PySem.Challenge.rw_mirrorsums_k28_tables_told) (n := 63) (k := 6) (x := "script") (CX := fun _ => L2.CX0) (sp := fun w => Ms.spLaw _) rfl (by decide) rfl ⟨rfl, by decide, by decide⟩ (fun w h Y => PySem.W.kIn_of Y) ?F (fun _ _ a ns hl _ hS => ⟨a, ns, rfl, hS, hl, fun _ => rfl⟩) (fun _ _ _ _ _ h => h)
  case F =>
    intro w mg fa h KX G hmg
    refine' Ms.all_mk KX G hmg ?a0 ?l0 ?c0 ?k0 ?a1 ?l1 ?c1 ?k1 ?a2 ?l2 ?c2 ?k2 ?a3 ?l3 ?c3 ?k3 ?a4 ?l4 ?c4 ?k4 ?a5 ?l5 ?c5 ?k5 ?a6 ?l6 ?c6 ?k6 ?a7 ?l7 ?c7 ?k7 ?a8 ?l8 ?c8 ?k8 ?a9 ?l9 ?c9 ?k9 ?a10 ?l10 ?c10 ?k10 ?a11 ?l11 ?c11 ?k11 ?a12 ?l12 ?c12 ?k12 ?a13 ?l13 ?c13 ?k13 ?a14 ?l14 ?c14 ?k14 ?a15 ?l15 ?c15 ?k15 ?a16 ?l16 ?c16 ?k16 ?a17 ?l17 ?c17 ?k17 ?a18 ?l18 ?c18 ?k18 ?a19 ?l19 ?c19 ?k19 ?a20 ?l20 ?c20 ?k20 ?a21 ?l21 ?c21 ?k21 ?z0 ?z1 ?z2 ?z3 ?z4 ?z5 ?z6 ?z7 ?z8 ?z9 ?z10 ?z11 ?z12
    (case a0 => k_is); (case l0 => k_is); (case c0 => k_is); (case k0 => k_is); (case a1 => k_is); (case l1 => k_is); (case c1 => k_is); (case k1 => k_is)
    (case a2 => k_is); (case l2 => k_is); (case c2 => k_is); (case k2 => k_is); (case a3 => k_is); (case l3 => k_is); (case c3 => k_is); (case k3 => k_is)
    (case a4 => k_is); (case l4 => k_is); (case c4 => k_is); (case k4 => k_is); (case a5 => k_is); (case l5 => k_is); (case c5 => k_is); (case k5 => k_is)
    (case a6 => k_is); (case l6 => k_is); (case c6 => k_is); (case k6 => k_is); (case a7 => k_is); (case l7 => k_is); (case c7 => k_is); (case k7 => k_is)
    (case a8 => k_is); (case l8 => k_is); (case c8 => k_is); (case k8 => k_is); (case a9 => k_is); (case l9 => k_is); (case c9 => k_is); (case k9 => k_is)
    (case a10 => k_is); (case l10 => k_is); (case c10 => k_is); (case k10 => k_is); (case a11 => k_is); (case l11 => k_is); (case c11 => k_is); (case k11 => k_is)
    (case a12 => k_is); (case l12 => k_is); (case c12 => k_is); (case k12 => k_is); (case a13 => k_is); (case l13 => k_is); (case c13 => k_is); (case k13 => k_is)
    (case a14 => k_is); (case l14 => k_is); (case c14 => k_is); (case k14 => k_is); (case a15 => k_is); (case l15 => k_is); (case c15 => k_is); (case k15 => k_is)
    (case a16 => k_is); (case l16 => k_is); (case c16 => k_is); (case k16 => k_is); (case a17 => k_is); (case l17 => k_is); (case c17 => k_is); (case k17 => k_is)
    (case a18 => k_is); (case l18 => k_is); (case c18 => k_is); (case k18 => k_is); (case a19 => k_is); (case l19 => k_is); (case c19 => k_is); (case k19 => k_is)
    (case a20 => k_is); (case l20 => k_is); (case c20 => k_is); (case k20 => k_is); (case a21 => k_is); (case l21 => k_is); (case c21 => k_is); (case k21 => k_is)
    (case z0 => k_is); (case z1 => k_is); (case z2 => k_is); (case z3 => k_is); (case z4 => k_is); (case z5 => k_is); (case z6 => k_is); (case z7 => k_is)
    (case z8 => k_is); (case z9 => k_is); (case z10 => k_is); (case z11 => k_is); (case z12 => k_is)
