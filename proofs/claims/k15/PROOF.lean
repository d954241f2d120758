import PyProof.Rows.All
import Wide.All
import OpenK.AllK
import Wide.FinOn
import HandS.ForMost
import HandS.RevTup
import HandS.Rev
import HandS.Deep
import KE.DataFind
import KE.DatumIndex
import HandS.Conv
import HandS.TupAny
import HandS.Evl
import HandS.Nested
import HandS.SortInts
import KE.SortData
import KE.LtData
import HandS.SetFor
import HandS.IsInst
import HandS.More
import HandS.Iter
import HandS.Comp
import HandS.Ends
import PySem.Challenge.RW_escaperow_k15_whole_ranks_keep_order
set_option Elab.async false
set_option linter.all false
set_option maxRecDepth 100000
set_option maxHeartbeats 0
/-! Pf0: rules that the layer lacks: list(reversed(a list)); xs.extend(a tuple) -/
namespace RT
open PySem PyProof.Rows
section
variable {prog : Program} {w : World} {A : Around} {E : Value → Shared → Prop} {s : Shared} {R : Result → Shared → Prop}
theorem list_init_rev {it l S : Addr} {items : Array Value} (hh : A.handled = none) (hit : s.heap.IsRevIter it l ((items.size : Int) - 1)) (hl : s.heap.IsList l items) (hne : l ≠ it) (hn : items.size ≤ sizeLine) (hSi : S ≠ it) (hSl : S ≠ l)
    (hS : s.heap.get? S = some { cls := .type "list", data := .seq #[] })
    (hR : ∀ h' tk acc' c', (∀ b o, b ≠ S → b ≠ it → s.heap.get? b = some o → h'.get? b = some o) → h'.get? S = some { cls := .type "list", dict := none, data := .seq acc' c', slots := #[] } →
      ItemsOf (fun i v => items[items.size - 1 - i]? = some v) acc' items.size → R (.ok (.ret .none)) { s with heap := h', toks := tk }) :
    wpAny (model prog w) A.in1 (Builtin.«list.__init__» ⟨[.ref S, .ref it], []⟩)
      (fun fin s' => match fin with | .done f => R (.ok f) s' | .again c' => c'.quiet = true ∧ codeAny (model prog w) A c' R s') (fun e s' => R (.error e) s') s := by
  have W := (Walks.listRev (prog := prog) (w := w) (A := A.in1) hh it l hne items).toS
  have hSf : S ∉ [it, l] := by simp only [List.mem_cons, List.not_mem_nil, or_false, not_or]; exact ⟨hSi, hSl⟩
  show wpAny _ _ (do let old ← Builtin.List.listItems (.ref S); Builtin.List.listUpdate (.ref S) (fun _ => #[]); letGo old.toList.reverse; Builtin.List.listExtendWith (.ref S) (.ref it) .none) _ _ s
  refine wpAny_bind ?_
  unfold Builtin.List.listItems
  refine wpAny_bind (wpAny_seqItems hS rfl (wpAny_pure ?_))
  show wpAny _ _ (updateSeq S (fun _ => #[]) >>= fun _ => letGo (#[] : Array Value).toList.reverse >>= fun _ => Builtin.List.listExtendWith (.ref S) (.ref it) .none) _ _ s
  refine wpAny_bind (wpAny_updateSeq hS rfl ?_)
  have hS₂ := Heap.get?_update_self (Obj.mapSeq (fun _ => (#[] : Array Value))) hS rfl
  have oth : ∀ b o, b ≠ S → s.heap.get? b = some o → (s.heap.update S (Obj.mapSeq (fun _ => (#[] : Array Value)))).get? b = some o :=
    fun b o hb e => (Heap.get?_update_other _ _ (Ne.symm hb)).trans e
  refine wpAny_bind (wpAny_letGo ?_)
  generalize hs2 : ({ s with heap := s.heap.update S (Obj.mapSeq (fun _ => (#[] : Array Value))) } : Shared) = s2 at hS₂ ⊢
  have e2 : s2.heap = s.heap.update S (Obj.mapSeq (fun _ => (#[] : Array Value))) := by rw [← hs2]
  have oth2 : ∀ b o, b ≠ S → s.heap.get? b = some o → s2.heap.get? b = some o := by rw [e2]; exact oth
  have hit1 : s2.heap.IsRevIter it l ((items.size : Int) - 1) := hit.at fun o e => oth2 it o (Ne.symm hSi) e
  have hl1 : s2.heap.IsList l items := hl.at fun o e => oth2 l o (Ne.symm hSl) e
  have hT : s2.TypeIs (.ref it) "list_reverseiterator" := Heap.IsRevIter.typeIs (s := s2) hit1
  have h1 : Builtin.List.listSameRef (.ref S) (.ref it) = false := by simp [Builtin.List.listSameRef, hSi]
  unfold Builtin.List.listExtendWith
  refine wpAny_bind (wpAny_typeOf hT ?_)
  rw [if_neg (by rw [h1]; decide)]
  refine wpAny_bind (wpAny_pyIter_revIter (s := s2) hit1 ?_)
  refine wpAny_bind (wpAny_holding ?_)
  unfold Builtin.List.listLengthHint
  refine wpAny_bind (wpAny_specialOf hT nolen_lri ?_)
  show wpAny _ A.in1 (specialOf (Value.ref it) (Str.ofString "__length_hint__") >>= _) _ _ _
  refine wpAny_bind (wpAny_specialOf hT hint_lri ?_)
  generalize hid : ("list_reverseiterator.__length_hint__" : String) = id0
  wp_delta
  rw [show splitId id0 = some ("list_reverseiterator", "__length_hint__") from by subst hid; decide +kernel]
  subst hid
  refine wpAny_bind (wpAny_isInstance (b := true) hT (by rw [isSubtype_type]; kernel_rfl) ?_)
  refine wpAny_pure ?_
  rw [if_neg (by decide)]
  have e0 : ((items.size : Nat) : Int) - 1 - ((0 : Nat) : Int) = (items.size : Int) - 1 := by omega
  have hS3 : s2.heap.get? S = some { cls := .type "list", data := .seq #[] 1 } ∨ ∃ c, s2.heap.get? S = some { cls := .type "list", dict := none, data := .seq #[] c, slots := #[] } := .inr (by
    rw [e2]
    exact ⟨_, Heap.get?_update_self (Obj.mapSeq (fun _ => (#[] : Array Value))) hS rfl⟩)
  obtain ⟨c, hS3⟩ : ∃ c, s2.heap.get? S = some { cls := .type "list", dict := none, data := .seq #[] c, slots := #[] } := by
    rw [e2]
    exact ⟨_, Heap.get?_update_self (Obj.mapSeq (fun _ => (#[] : Array Value))) hS rfl⟩
  refine wpAny_pure ⟨plainId_quiet F.plain_extend_loop _, codeAny_extend_loopS W hn _ hSf _ items.size 0 _ _ c rfl (Nat.zero_le _) ⟨Nat.zero_le _, by rw [e0]; exact hit1, hl1⟩ hS3 (ItemsOf.nil _) fun s' acc' c' hm hS' hacc => ?_⟩
  rw [Moved.eq_with hm]
  have : ({ s2 with heap := s'.heap, toks := s'.toks } : Shared) = { s with heap := s'.heap, toks := s'.toks } := by rw [← hs2]
  rw [this]
  refine hR s'.heap s'.toks acc' c' (fun b o hb hb2 e => hm.heap b o (fun hmem => ?_) (oth2 b o hb e)) hS' hacc
  rcases List.mem_cons.mp hmem with e' | hmem
  · exact hb e'
  · exact hb2 (List.mem_singleton.mp hmem)
theorem call_list_rev {it l : Addr} {items : Array Value} {Q : Value → Shared → Prop} (hh : A.handled = none) (hit : s.heap.IsRevIter it l ((items.size : Int) - 1)) (hl : s.heap.IsList l items) (hne : l ≠ it) (hn : items.size ≤ sizeLine)
    (hQ : ∀ h' tk acc' c', (∀ b o, b ≠ it → s.heap.get? b = some o → h'.get? b = some o) → h'.get? s.heap.objs.size = some { cls := .type "list", dict := none, data := .seq acc' c', slots := #[] } →
      ItemsOf (fun i v => items[items.size - 1 - i]? = some v) acc' items.size → Q (.ref s.heap.objs.size) { s with heap := h', toks := tk }) :
    wpAny (model prog w) A (call (.type "list") [.ref it]) Q E s := by
  obtain ⟨oi, hoi, _⟩ := id hit
  obtain ⟨ol, hol, _⟩ := id hl
  have hSi : s.heap.objs.size ≠ it := Nat.ne_of_gt (Heap.lt_size hoi)
  have hSl : s.heap.objs.size ≠ l := Nat.ne_of_gt (Heap.lt_size hol)
  refine callType_codes (Q₁ := fun obj s₁ => obj = .ref s.heap.objs.size ∧ s₁ = { s with heap := s.heap.push { cls := .type "list", data := .seq #[] } }) F.called_list (F.typeCall_list_1 _) F.entry_list_init
    (code_list_new _ ⟨rfl, rfl⟩) fun obj s₁ h₁ => ?_
  obtain ⟨rfl, rfl⟩ := h₁
  have hS : (s.heap.push { cls := .type "list", data := .seq #[] }).get? s.heap.objs.size = some { cls := .type "list", data := .seq #[] } := Heap.get?_push_size _ rfl
  refine ⟨⟨_, hS, rfl⟩, F.args_list_init_2 _ _, list_init_rev (A := A.in1) hh (hit.at fun o e => Heap.get?_push_of_some _ e) (hl.push _) hne hn hSi hSl hS fun h' tk acc' c' hk hS' hacc => ?_⟩
  exact ⟨rfl, hQ h' tk acc' c' (fun b o hb e => hk b o (Nat.ne_of_lt (Heap.lt_size e)) hb (Heap.get?_push_of_some _ e)) hS' hacc⟩
end
end RT
namespace L2
open PySem PySem.Spec PyProof.Rows RT
/-- list(reversed(x)), x a list: a new list -/
def tLstRev (K : PySem.W.Frag) (te : TE) : TE := fun σ H Q => te σ H fun v H1 => ∃ (a : Addr) (xs : List V), v = .ref a ∧ SqL K H1 a xs ∧ ∀ q, H1 q = none → Q (.ref q) (upd H1 q (.lst xs.reverse))
theorem pe_lstRev {X : Cx} {e : Expr} {te : TE} {p p2 pos pos2 : Pos} (hc : X.calm = true) (hg : Gl X "list") (hm : X.mg "list" = none) (hg2 : Gl X "reversed") (hm2 : X.mg "reversed" = none) (he : PE X e te)
    (hs : starEach [e] X.env = (false, eval e X.env) :: starEach [] X.env := by rfl)
    (hs2 : starEach [.Call (.Name "reversed" p2) [e] [] pos2] X.env = (false, eval (.Call (.Name "reversed" p2) [e] [] pos2) X.env) :: starEach [] X.env := by rfl) :
    PE X (.Call (.Name "list" p) [.Call (.Name "reversed" p2) [e] [] pos2] [] pos) (tLstRev X.K te) := by
  refine ⟨fun pins s σ H Q I h => ?_⟩
  refine Call_ (ld_blt I hg hm boot_list (PyProof.Rows.callWith_type1 (args_cons (Call_ (ld_blt I hg2 hm2 PyProof.Rows.boot_reversed (PyProof.Rows.callWith_type1 (args_cons (thn (he.run pins s σ H _ I h) fun u s1 ⟨v, H1, I1, r1, q1⟩ => args_nil ?_) hs) hs rfl))) hs2) hs2 rfl))
  obtain ⟨a, xs, ev, hq, q⟩ := q1
  subst ev
  obtain rfl : u = Value.ref a := r1
  obtain ⟨its, rv, p', hz⟩ := I1.list hq
  refine call_reversed_list p'.isList (args_nil ?_)
  have k0 : ∀ b o, s1.heap.get? b = some o → (s1.heap.push (revObj a ((its.toArray.size : Int) - 1))).get? b = some o := fun b o e => Heap.get?_push_of_some _ e
  have I2 : Inv X pins σ H1 { s1 with heap := s1.heap.push (revObj a ((its.toArray.size : Int) - 1)) } := I1.kept (t' := s1.toks) k0
  obtain ⟨f0, f1, f2, f3, f4, f5⟩ := I1.fpOk (H' := H1) (b := s1.heap.objs.size) (Nat.le_refl _) (I1.hok.fresh (Nat.le_refl _))
  have hl := p'.isList
  obtain ⟨ol, hol, _⟩ := id hl
  have hne : a ≠ s1.heap.objs.size := Nat.ne_of_lt (Heap.lt_size hol)
  have hn : its.toArray.size ≤ sizeLine := by rw [List.size_toArray, ← rv.length]; exact hz
  refine call_list_rev (s := { s1 with heap := s1.heap.push (revObj a ((its.toArray.size : Int) - 1)) }) (I1.ok.hd hc) ⟨_, Heap.get?_push_size _ rfl, rfl, rfl⟩ (hl.push _) hne hn fun h' tk acc c' hk hS' hi => ?_
  have hpn : H1 (s1.heap.push (revObj a ((its.toArray.size : Int) - 1))).objs.size = none := I2.hok.fresh (Nat.le_refl _)
  refine ⟨.ref _, _, I2.turnedNew (t' := tk) (h' := h') (ch := [s1.heap.objs.size]) (T := (s1.heap.push (revObj a ((its.toArray.size : Int) - 1))).objs.size) (ob := .lst xs.reverse)
    (fun b o hb e => hk b o (fun z => hb (by rw [z]; exact List.mem_cons_self)) e) (fun b hb => ?_) (Nat.le_refl _) ?_, rfl, q _ hpn⟩
  · have e : b = s1.heap.objs.size := by simpa using hb
    subst e
    exact ⟨f0, f1, f2, f3, f4, f5⟩
  · refine ⟨by rw [List.length_reverse]; exact hz, acc.toList, c', vals_rev rv hi, ?_⟩
    rw [Array.toArray_toList]
    exact hS'

theorem list_extend_tupleA (l : Addr) (items : Array Value) (n : Nat) (b : Addr) (items2 : Array Value) (n2 : Nat) (dd : Option Addr) (sl : Array (Option Value)) (hs0 : ¬(!items.isEmpty && Builtin.List.listTooLong (items.size + items2.size)) = true) (hs1 : items.size ≤ sizeLine) (hs2 : items.size + items2.size ≤ sizeLine + 1 := by seq_fits) :
    Meets (Builtin.«list.extend» ⟨[.ref l, .ref b], []⟩) (fun _ R s => s.heap.get? l = some { cls := .type "list", dict := none, data := .seq items n, slots := #[] } ∧ s.heap.get? b = some { cls := .type "tuple", dict := dd, data := .seq items2 n2, slots := sl } ∧ R (.ok (.ret Value.none)) { s with heap := s.heap.update l (Obj.mapSeq fun x => x ++ items2), toks := s.toks }) :=
  .of_wp fun prog w A R s h => by
    obtain ⟨hp, g, d, tk, os⟩ := s; obtain ⟨hl, hb, h⟩ := h; have f1 := AutoSeq1.idx_int; have f2 := AutoSeq1.sub_tuple_tuple; have f3 := AutoSeq1.sub_list_list; have f4 := AutoSeq1.sub_tuple_list; have f5 := AutoSeq1.sub_list_tuple;
    have hz' : (items ++ items2).size ≤ sizeLine + 1 := by rw [Array.size_append]; exact hs2
    wp_walk using (wpAny_updateSeq hl rfl (hz := hs1) (_hz' := hz')), AutoSeq1.wpAny_loadPart' hl, AutoSeq1.wpAny_loadPart' hb; exact ⟨_, rfl, h⟩
/-- xs.extend(t), t a tuple -/
def rExtendT (K : PySem.W.Frag) : V → List V → Hp → VK → Prop := fun x vs H Q => ∃ l b xs zs, x = .ref l ∧ vs = [.ref b] ∧ H l = some (.lst xs) ∧ SqT K H b zs ∧ xs.length + zs.length ≤ sizeLine ∧ Q .non (upd H l (.lst (xs ++ zs)))
theorem mt_extendT {X : Cx} : MtM X "list.extend" (rExtendT X.K) := by
  intro pins s σ H x vs v us Q I rx rv h
  obtain ⟨l, b, xs, zs, rfl, rfl, hH, hB, hz, q⟩ := h
  cases rx
  obtain ⟨u, rfl, ru⟩ := rv.one
  cases ru
  obtain ⟨z, its, n, r, hl, e⟩ := I.lstM hH
  obtain ⟨its2, r2, ⟨o2, ho2, hc2, n2, hd2⟩, hl2⟩ := I.tuple hB
  have hle := r2.length
  have hsz : its.toArray.size + its2.toArray.size ≤ sizeLine := by rw [List.size_toArray, List.size_toArray]; omega
  have hlong : ¬ (!its.toArray.isEmpty && Builtin.List.listTooLong (its.toArray.size + its2.toArray.size)) = true := by
    rw [notLongL hsz, Bool.and_false]
    exact Bool.false_ne_true
  obtain ⟨c2, d2, da2, sl2⟩ := o2
  simp only at hc2 hd2
  subst hc2 hd2
  refine call_meets F.slot_list_extend ⟨_, e, rfl⟩ F.entry_list_extend (F.args_list_extend_2 _ _)
    (list_extend_tupleA l its.toArray n b its2.toArray n2 d2 sl2 hlong (by rw [List.size_toArray]; omega) (by omega)) ⟨e, ho2, ?_⟩
  refine ⟨.non, _, I.lset (its' := its ++ its2) hH e (by simp) (r.append r2) ?_, rfl, q⟩
  rw [List.length_append]
  omega

/-! ### == , !=, in, index, remove of data of any depth (plain: no dict within) -/
section
variable {X : Cx}
def rEqP (K : PySem.W.Frag) : R2 := fun x y H Q => ∃ d e, Dp K H x d ∧ Dp K H y e ∧ d.plain = true ∧ e.plain = true ∧ d.depth ≤ 60 ∧ Q (.bl (PyData.eqv d e)) H
def rNeP (K : PySem.W.Frag) : R2 := fun x y H Q => ∃ d e, Dp K H x d ∧ Dp K H y e ∧ d.plain = true ∧ e.plain = true ∧ d.depth ≤ 60 ∧ Q (.bl (!PyData.eqv d e)) H
theorem op_eqP (hu : X.A.units + 64 < cLine) : OpR X (compareOp .Eq) (rEqP X.K) := by
  intro pins s σ H x y v u Q I rx ry h
  obtain ⟨d, e, hd, he, sd, se, hz, q⟩ := h
  obtain ⟨as, r1⟩ := Dp.reads I d x v hd rx
  obtain ⟨bs, r2⟩ := Dp.reads I e y u he ry
  have hm := Nat.min_le_left d.depth e.depth
  exact PySem.SeqAt.eq_plain r1 r2 sd se (by omega) ⟨.bl _, H, I, rfl, q⟩
theorem op_neP (hu : X.A.units + 64 < cLine) : OpR X (compareOp .NotEq) (rNeP X.K) := by
  intro pins s σ H x y v u Q I rx ry h
  obtain ⟨d, e, hd, he, sd, se, hz, q⟩ := h
  obtain ⟨as, r1⟩ := Dp.reads I d x v hd rx
  obtain ⟨bs, r2⟩ := Dp.reads I e y u he ry
  have hm := Nat.min_le_left d.depth e.depth
  exact PySem.SeqAt.ne_plain r1 r2 sd se (by omega) ⟨.bl _, H, I, rfl, q⟩
/-- x in ys, x not in ys: ys a list or a tuple -/
def rInP (K : PySem.W.Frag) (neg : Bool) : R2 := fun x y H Q => ∃ d ds, Dp K H x d ∧ (Dp K H y (.list ds) ∨ Dp K H y (.tuple ds)) ∧ d.plain = true ∧ PyData.plainAll ds = true ∧ d.depth ≤ 60 ∧ Q (.bl (neg ^^ ds.any fun z => PyData.eqv z d)) H
theorem op_inP (hu : X.A.units + 64 < cLine) : OpR X (compareOp .In) (rInP X.K false) := by
  intro pins s σ H x y v u Q I rx ry h
  obtain ⟨d, ds, hd, he, sd, se, hz, q⟩ := h
  obtain ⟨as, r1⟩ := Dp.reads I d x v hd rx
  have hm := Nat.min_le_right (PyData.depthAll ds) d.depth
  rw [Bool.false_xor] at q
  rcases he with he | he
  · obtain ⟨bs, r2⟩ := Dp.reads I (.list ds) y u he ry
    exact PySem.SeqAt.in_list_data r2 r1 se sd (by omega) ⟨.bl _, H, I, rfl, q⟩
  · obtain ⟨bs, r2⟩ := Dp.reads I (.tuple ds) y u he ry
    exact PySem.SeqAt.in_tuple_data r2 r1 se sd (by omega) ⟨.bl _, H, I, rfl, q⟩
theorem op_notInP (hu : X.A.units + 64 < cLine) : OpR X (compareOp .NotIn) (rInP X.K true) := by
  intro pins s σ H x y v u Q I rx ry h
  obtain ⟨d, ds, hd, he, sd, se, hz, q⟩ := h
  obtain ⟨as, r1⟩ := Dp.reads I d x v hd rx
  have hm := Nat.min_le_right (PyData.depthAll ds) d.depth
  rw [Bool.true_xor] at q
  rcases he with he | he
  · obtain ⟨bs, r2⟩ := Dp.reads I (.list ds) y u he ry
    exact PySem.SeqAt.notIn_list_data r2 r1 se sd (by omega) ⟨.bl _, H, I, rfl, q⟩
  · obtain ⟨bs, r2⟩ := Dp.reads I (.tuple ds) y u he ry
    exact PySem.SeqAt.notIn_tuple_data r2 r1 se sd (by omega) ⟨.bl _, H, I, rfl, q⟩
/-- xs.index(x), x in xs -/
def rIndexP (K : PySem.W.Frag) : V → List V → Hp → VK → Prop := fun x xs H Q => ∃ (a : Addr) (y : V) (d : PyData) (ds : List PyData) (j : Nat), x = V.ref a ∧ xs = [y] ∧ Dp K H (V.ref a) (.list ds) ∧ Dp K H y d ∧
  PyData.plainAll ds = true ∧ d.plain = true ∧ d.depth ≤ 60 ∧ PySem.SeqAt.dataPlace ds d = some j ∧ Q (.int (j : Nat)) H
theorem mt_indexP (hu : X.A.units + 64 < cLine) : MtR X "list.index" (rIndexP X.K) := by
  intro pins s σ H x xs v us Q I rx rxs h
  obtain ⟨a, y, d, ds, j, rfl, rfl, hl, hy, sl, sd, hz, hp, q⟩ := h
  cases rx
  cases rxs with
  | cons ry rt =>
    rename_i uy ut
    cases rt
    obtain ⟨bs, r1⟩ := Dp.reads I d y uy hy ry
    cases hl with
    | lst hs ha =>
      obtain ⟨its, rv, ⟨⟨cls, dd, data, sls⟩, n, ho, hc, hdn, hdt⟩, hlen⟩ := I.list hs
      simp only at hc hdt
      subst hc hdt
      obtain ⟨as, h4⟩ := Dp.readsAll I ds _ its ha rv
      have h4' : ReadsAll s.heap its.toArray.toList ds as := h4
      obtain ⟨hj, hit, hno⟩ := PySem.SeqAt.hit_at h4' sl hp
      have hm := Nat.min_le_right (PyData.depthAll ds) d.depth
      have hvl := rv.length
      have hsl := sizeLine_eq
      have hsz : its.toArray.size = its.length := List.size_toArray
      refine call_meets PySem.F.slot_list_index ⟨_, ho, rfl⟩ PySem.F.entry_list_index (PySem.F.args_list_index_2 _ _)
        (SeqAt.list_indexAt a its.toArray n dd sls uy (fun u => PyData.eqv (SeqAt.readOf s.heap u) d) j hj (by omega) hit hno) ⟨ho, PySem.SeqAt.items_plain (A := X.A) h4' r1 sl sd (by omega), ?_⟩
      exact ⟨.int (j : Nat), H, I.tok _, ⟨_, rfl⟩, q⟩
/-- xs.remove(x), x in xs -/
def rRemP (K : PySem.W.Frag) : V → List V → Hp → VK → Prop := fun x vs H Q => ∃ (a : Addr) (xs : List V) (y : V) (d : PyData) (ds : List PyData) (j : Nat), x = V.ref a ∧ vs = [y] ∧ H a = some (.lst xs) ∧ DpAll K H xs ds ∧ Dp K H y d ∧
  PyData.plainAll ds = true ∧ d.plain = true ∧ d.depth ≤ 60 ∧ PySem.SeqAt.dataPlace ds d = some j ∧ Q .non (upd H a (.lst (xs.eraseIdx j)))
theorem mt_remP (hu : X.A.units + 64 < cLine) : MtM X "list.remove" (rRemP X.K) := by
  intro pins s σ H x xs v us Q I rx rxs h
  obtain ⟨a, xs, y, d, ds, j, rfl, rfl, hH, ha, hy, sl, sd, hz, hp, q⟩ := h
  cases rx
  obtain ⟨u, rfl, ru⟩ := rxs.one
  obtain ⟨bs, r1⟩ := Dp.reads I d y u hy ru
  obtain ⟨z, its, n, r, hl, e⟩ := I.lstM hH
  obtain ⟨as, h4⟩ := Dp.readsAll I ds _ its ha r
  have h4' : ReadsAll s.heap its.toArray.toList ds as := h4
  have hm := Nat.min_le_right (PyData.depthAll ds) d.depth
  refine PySem.SeqAt.remove_list_data (l := a) (vs := its.toArray) (xs := ds) (d := d) (j := j) ⟨_, e, rfl, _, rfl⟩ h4' r1 sl sd (by omega) hp (by rw [List.size_toArray]; omega) ?_
  refine ⟨.non, _, I.lset (its' := its.eraseIdx j) hH e ?_ (r.eraseIdx j) ?_, rfl, q⟩
  · show its.toArray.eraseIdxIfInBounds j = (its.eraseIdx j).toArray
    rw [List.eraseIdxIfInBounds_toArray]
  · have := len_erase xs j
    omega
end
end L2

/-! Pf1: a small language of plain data (no heap): what a def's body is read as, and what it computes -/
namespace Pf
open PySem L2

/-! ### data -/
inductive D where
  | non | bl (b : Bool) | int (i : Int) | str (s : Str)
  | lst (xs : List D) | tup (xs : List D)
  | obj (c : Nat) (fs : List (Nat × D))
  | scr (ns : List Int)

/-- a field of an owned object: settled, or an owned list -/
inductive F where
  | fz (d : D) | ol (xs : List D)
/-- what is owned by a frame: a list, an instance -/
inductive OP where
  | lst (xs : List D) | obj (c : Nat) (fs : List (Nat × F))
/-- a slot: nothing, settled data, an owned thing (true: by this frame; false: by a caller) -/
inductive Sl where
  | un | va (d : D) | ow (b : Bool) (p : OP)
/-- what an expression gives: settled data, a new owned thing, the thing of slot i -/
inductive Rv where
  | va (d : D) | fr (p : OP) | s (i : Nat)

@[simp] def F.d : F → D
  | .fz d => d
  | .ol xs => .lst xs
@[simp] def OP.d : OP → D
  | .lst xs => .lst xs
  | .obj c fs => .obj c (fs.map fun p => (p.1, p.2.d))

/-! ### outcomes -/
inductive Rs (α : Type) where
  | stuck | ok (a : α)
def Rs.bind {α β : Type} : Rs α → (α → Rs β) → Rs β
  | .stuck, _ => .stuck
  | .ok a, f => f a
def Rs.of {α : Type} : Option α → Rs α
  | none => .stuck
  | some a => .ok a
def Rs.sat {α : Type} (m : Rs α) (P : α → Prop) : Prop := match m with
  | .stuck => False
  | .ok a => P a
def Rs.chk (c : Prop) [Decidable c] : Rs Unit := if c then .ok () else .stuck
theorem Rs.sat_bind {α β : Type} {m : Rs α} {f : α → Rs β} {P : β → Prop} : (m.bind f).sat P ↔ m.sat fun a => (f a).sat P := by
  cases m <;> exact Iff.rfl
theorem Rs.sat_ok {α : Type} {a : α} {P : α → Prop} : (Rs.ok a).sat P ↔ P a := Iff.rfl
theorem Rs.sat_mono {α : Type} {m : Rs α} {P P' : α → Prop} (h : m.sat P) (k : ∀ a, P a → P' a) : m.sat P' := by
  cases m with
  | stuck => exact h
  | ok a => exact k a h
@[simp] theorem Rs.bind_ok {α β : Type} (a : α) (f : α → Rs β) : (Rs.ok a).bind f = f a := rfl
@[simp] theorem Rs.bind_stuck {α β : Type} (f : α → Rs β) : (Rs.stuck : Rs α).bind f = .stuck := rfl
@[simp] theorem Rs.of_some {α : Type} (a : α) : Rs.of (some a) = .ok a := rfl
theorem Rs.chk_ok {c : Prop} [Decidable c] (h : c) : Rs.chk c = .ok () := if_pos h
theorem Rs.of_sat {α : Type} {o : Option α} {P : α → Prop} (h : (Rs.of o).sat P) : ∃ a, o = some a ∧ P a := by
  cases o with
  | none => exact h.elim
  | some a => exact ⟨a, rfl, h⟩
theorem Rs.chk_sat {c : Prop} [Decidable c] {P : Unit → Prop} (h : (Rs.chk c).sat P) : c ∧ P () := by
  unfold Rs.chk at h
  by_cases e : c
  · rw [if_pos e] at h; exact ⟨e, h⟩
  · rw [if_neg e] at h; exact h.elim

/-! ### the language -/
inductive BOp where
  | add | sub | mul | fdiv | mod | pow
  deriving DecidableEq
inductive COp where
  | eq | ne | lt | le | gt | ge | isin | notin
  deriving DecidableEq
inductive Bi where
  | len | abs | int | list | tuple | sum | max1 | max2 | min2 | all | sorted | sortedSet | lenSet | listRange | tupRange | listRev | isI | isB | isS | isT | isL
  deriving DecidableEq
inductive Bm where
  | append | extend | insert | pop1 | remove | clear | index | count
  deriving DecidableEq
inductive Tgt where
  | one (i : Nat) | many (is : List Nat)
  deriving DecidableEq

mutual
inductive PE where
  | var (i : Nat) | cI (i : Int) | cB (b : Bool) | cN | cS (s : Str) | gI (x : Str) (i : Int)
  | tup (es : PEs) | lst (es : PEs)
  | bin (op : BOp) (a b : PE) | neg (a : PE)
  | cmp (op : COp) (a b : PE) | chain (op op' : COp) (a b c : PE) | isN (a : PE) | notN (a : PE)
  | and (es : PEs) | or (es : PEs) | not (a : PE) | ife (t a b : PE)
  | ix (a b : PE) | sl (a : PE) (lo hi : POpt)
  | fld (a : PE) (c f : Nat)
  | call (f : Nat) (es : PEs) | make (c f : Nat) (es : PEs) | meth (a : PE) (c m f : Nat) (es : PEs)
  | bi (b : Bi) (es : PEs) | bm (m : Bm) (a : PE) (es : PEs)
  | lc (own : List Nat) (tg : Tgt) (it : PI) (cond : POpt) (elt : PE)
  | nvr
inductive PEs where
  | nil | cons (e : PE) (es : PEs)
inductive POpt where
  | none | some (e : PE)
inductive PI where
  | of (e : PE) | rng1 (a : PE) | rng2 (a b : PE) | enum (a : PE) | rev (a : PE)
end
mutual
inductive PS where
  | asg (i : Nat) (e : PE) | asgT (is : List Nat) (e : PE) | setix (a b e : PE) | setfld (i c f : Nat) (e : PE) | aug (i : Nat) (op : BOp) (e : PE)
  | ex (e : PE) | ret (e : PE) | retN | ite (c : PE) (a b : PSs) | for (tg : Tgt) (it : PI) (body : PSs) | whl (c : PE) (body : PSs) | pass | doc | never
inductive PSs where
  | nil | cons (s : PS) (ss : PSs)
end

/-- a def: how many parameters, which of them it may change in place, how many names, its body -/
structure PDef where
  np : Nat
  io : List Bool
  ns : Nat
  own : Bool
  body : PSs

/-! ### reading data -/
abbrev Sls := List Sl
@[simp] def view (sl : Sls) : Rv → Option D
  | .va d => some d
  | .fr p => some p.d
  | .s i => match sl[i]? with
    | some (.va d) => some d
    | some (.ow _ p) => some p.d
    | _ => none
@[simp] def putA {α : Type} (f : Nat) (x : α) : List (Nat × α) → List (Nat × α)
  | [] => [(f, x)]
  | (g, y) :: r => if f = g then (f, x) :: r else (g, y) :: putA f x r
/-- settle what was given -/
@[simp] def settle (sl : Sls) : Rv → Option (D × Sls)
  | .va d => some (d, sl)
  | .fr p => some (p.d, sl)
  | .s i => match sl[i]? with
    | some (.va d) => some (d, sl)
    | some (.ow true p) => some (p.d, sl.set i (.va p.d))
    | _ => none

mutual
def D.py : D → PyData
  | .non => .none
  | .bl b => .bool b
  | .int i => .int i
  | .str s => .str s
  | .lst xs => .list (D.pys xs)
  | .tup xs => .tuple (D.pys xs)
  | .obj _ _ => .none
  | .scr _ => .none
def D.pys : List D → List PyData
  | [] => []
  | x :: xs => x.py :: D.pys xs
end
mutual
/-- plain data: no instance, no script within -/
def D.pl : D → Bool
  | .lst xs => D.pls xs
  | .tup xs => D.pls xs
  | .obj _ _ => false
  | .scr _ => false
  | _ => true
def D.pls : List D → Bool
  | [] => true
  | x :: xs => x.pl && D.pls xs
end
/-- a single value -/
@[simp] def D.sc : D → Option V
  | .non => some .non
  | .bl b => some (.bl b)
  | .int i => some (.int i)
  | .str s => some (.str s)
  | _ => none
@[simp] def scs : List D → Option (List V)
  | [] => some []
  | x :: xs => match x.sc, scs xs with
    | some v, some vs => some (v :: vs)
    | _, _ => none
def intsD : List D → Option (List Int)
  | [] => some []
  | .int i :: xs => (intsD xs).map (i :: ·)
  | _ :: _ => none
def bls : List D → Option (List Bool)
  | [] => some []
  | .bl b :: xs => (bls xs).map (b :: ·)
  | _ :: _ => none
@[simp] def Rv.flat : Rv → Bool
  | .va d => d.sc.isSome
  | .fr (.lst xs) => (scs xs).isSome
  | _ => false
def cutA {α : Type} (xs : List α) (lo hi : Option Int) : List α := (xs.drop (HT.sIx xs.length 0 lo)).take (HT.sIx xs.length xs.length hi - HT.sIx xs.length 0 lo)
def sortI (ns : List Int) : List Int := ns.mergeSort fun a b => decide (a ≤ b)
def maxI : List Int → Int
  | [] => 0
  | [x] => x
  | x :: y :: r => let m := maxI (y :: r); if m > x then m else x

/-! ### operations on data -/
def eqD (a b : D) : Rs Bool := if a.pl = true ∧ b.pl = true ∧ a.py.depth ≤ 60 then .ok (PyData.eqv a.py b.py) else .stuck
def ltD : D → D → Rs Bool
  | .int i, .int j => .ok (decide (i < j))
  | .tup xs, .tup ys => if D.pls xs = true ∧ D.pls ys = true ∧ PySem.W.alike (.tuple (D.pys xs)) (.tuple (D.pys ys)) = true ∧ (PyData.tuple (D.pys xs)).depth ≤ 8 then .ok (PySem.W.dataLt (.tuple (D.pys xs)) (.tuple (D.pys ys))) else .stuck
  | _, _ => .stuck
def inD (neg : Bool) (x : D) : D → Rs Bool
  | .lst xs => if x.pl = true ∧ D.pls xs = true ∧ x.py.depth ≤ 60 then .ok (neg ^^ (D.pys xs).any fun z => PyData.eqv z x.py) else .stuck
  | .tup xs => if x.pl = true ∧ D.pls xs = true ∧ x.py.depth ≤ 60 then .ok (neg ^^ (D.pys xs).any fun z => PyData.eqv z x.py) else .stuck
  | _ => .stuck

@[simp] def boolD : D → Rs Bool
  | .bl b => .ok b
  | _ => .stuck
@[simp] def nonD : D → Bool
  | .non => true
  | _ => false
def cmpD : COp → D → D → Rs Bool
  | .eq, a, b => eqD a b
  | .ne, a, b => (eqD a b).bind fun k => .ok (!k)
  | .lt, a, b => ltD a b
  | .le, .int i, .int j => .ok (decide (i ≤ j))
  | .gt, .int i, .int j => .ok (decide (j < i))
  | .ge, .int i, .int j => .ok (decide (j ≤ i))
  | .isin, a, b => inD false a b
  | .notin, a, b => inD true a b
  | _, _, _ => .stuck
instance (i j : Int) : Decidable (CMul i j) := by unfold CMul; exact inferInstance
instance (i j : Int) : Decidable (CDiv i j) := by unfold CDiv; exact inferInstance
instance (i j : Int) : Decidable (CPow i j) := by unfold CPow; exact inferInstance
def binD : BOp → D → D → Rs Rv
  | .add, .int i, .int j => .ok (.va (.int (i + j)))
  | .add, .lst xs, .lst ys => if xs.length + ys.length ≤ sizeLine then .ok (.fr (.lst (xs ++ ys))) else .stuck
  | .add, .tup xs, .tup ys => if xs.length + ys.length ≤ sizeLine then .ok (.va (.tup (xs ++ ys))) else .stuck
  | .sub, .int i, .int j => .ok (.va (.int (i - j)))
  | .mul, .int i, .int j => if CMul i j then .ok (.va (.int (i * j))) else .stuck
  | .mul, .lst xs, .int k => if -(2 ^ 63) ≤ k ∧ k < 2 ^ 63 ∧ xs.length * k.toNat ≤ sizeLine then .ok (.fr (.lst (List.replicate k.toNat xs).flatten)) else .stuck
  | .fdiv, .int i, .int j => if CDiv i j then .ok (.va (.int (i / j))) else .stuck
  | .mod, .int i, .int j => if 0 < j then .ok (.va (.int (i % j))) else .stuck
  | .pow, .int i, .int j => if CPow i j then .ok (.va (.int (i ^ j.toNat))) else .stuck
  | _, _, _ => .stuck
def ixD : D → D → Rs D
  | .lst xs, .int i => .of (atI xs i)
  | .tup xs, .int i => .of (atI xs i)
  | _, _ => .stuck
@[simp] def slD : D → Option Int → Option Int → Rs Rv
  | .lst xs, lo, hi => .ok (.fr (.lst (cutA xs lo hi)))
  | .tup xs, lo, hi => .ok (.va (.tup (cutA xs lo hi)))
  | _, _, _ => .stuck
@[simp] def intD : D → Rs Int
  | .int i => .ok i
  | _ => .stuck
def rangeD (a b : Int) : List D := (List.range (b - a).toNat).map fun i => .int (a + (i : Nat))
def biD : Bi → List D → Rs Rv
  | .len, [.lst xs] => .ok (.va (.int xs.length))
  | .len, [.tup xs] => .ok (.va (.int xs.length))
  | .abs, [.int i] => .ok (.va (.int (if i < 0 then -i else i)))
  | .int, [.int i] => .ok (.va (.int i))
  | .int, [.bl b] => .ok (.va (.int (if b then 1 else 0)))
  | .list, [.lst xs] => .ok (.fr (.lst xs))
  | .list, [.tup xs] => .ok (.fr (.lst xs))
  | .tuple, [.lst xs] => .ok (.va (.tup xs))
  | .tuple, [.tup xs] => .ok (.va (.tup xs))
  | .sum, [.lst xs] => (Rs.of (intsD xs)).bind fun ns => .ok (.va (.int ns.sum))
  | .max1, [.lst xs] => (Rs.of (intsD xs)).bind fun ns => if 0 < ns.length then .ok (.va (.int (maxI ns))) else .stuck
  | .max2, [.int i, .int j] => .ok (.va (.int (if j > i then j else i)))
  | .min2, [.int i, .int j] => .ok (.va (.int (if j < i then j else i)))
  | .all, [.lst xs] => (Rs.of (bls xs)).bind fun bs => .ok (.va (.bl (bs.all id)))
  | .sorted, [.lst xs] => (Rs.of (intsD xs)).bind fun ns => .ok (.fr (.lst ((sortI ns).map .int)))
  | .listRange, [.int n] => if -(2 ^ 62) ≤ n ∧ n ≤ 16777216 then .ok (.fr (.lst (rangeD 0 n))) else .stuck
  | .tupRange, [.int n] => if -(2 ^ 62) ≤ n ∧ n ≤ 16777216 then .ok (.va (.tup (rangeD 0 n))) else .stuck
  | .listRev, [.lst xs] => .ok (.fr (.lst xs.reverse))
  | .isI, [d] => match d with | .int _ => .ok (.va (.bl true)) | .bl _ => .ok (.va (.bl true)) | .obj _ _ => .stuck | .scr _ => .stuck | _ => .ok (.va (.bl false))
  | .isB, [d] => match d with | .bl _ => .ok (.va (.bl true)) | .obj _ _ => .stuck | .scr _ => .stuck | _ => .ok (.va (.bl false))
  | .isS, [d] => match d with | .str _ => .ok (.va (.bl true)) | .obj _ _ => .stuck | .scr _ => .stuck | _ => .ok (.va (.bl false))
  | .isT, [d] => match d with | .tup _ => .ok (.va (.bl true)) | .obj _ _ => .stuck | .scr _ => .stuck | _ => .ok (.va (.bl false))
  | .isL, [d] => match d with | .lst _ => .ok (.va (.bl true)) | .obj _ _ => .stuck | .scr _ => .stuck | _ => .ok (.va (.bl false))
  | _, _ => .stuck
/-- a list's own methods that change it: what is told, the list behind -/
def bmD : Bm → List D → List D → Rs (D × List D)
  | .append, xs, [d] => if xs.length < sizeLine then .ok (.non, xs ++ [d]) else .stuck
  | .extend, xs, [.lst ys] => if xs.length + ys.length ≤ sizeLine then .ok (.non, xs ++ ys) else .stuck
  | .extend, xs, [.tup ys] => if xs.length + ys.length ≤ sizeLine then .ok (.non, xs ++ ys) else .stuck
  | .insert, xs, [.int i, d] => if i = 0 ∧ xs.length < sizeLine then .ok (.non, d :: xs) else .stuck
  | .pop1, xs, [.int i] => if 0 ≤ i ∧ i < xs.length ∧ i < 2 ^ 63 then (Rs.of xs[i.toNat]?).bind fun d => .ok (d, xs.eraseIdx i.toNat) else .stuck
  | .remove, xs, [d] => if d.pl = true ∧ D.pls xs = true ∧ d.py.depth ≤ 60 then (Rs.of (PySem.SeqAt.dataPlace (D.pys xs) d.py)).bind fun j => .ok (.non, xs.eraseIdx j) else .stuck
  | .clear, _, [] => .ok (.non, [])
  | _, _, _ => .stuck
/-- those that only look -/
def blD : Bm → D → List D → Rs D
  | .index, .lst xs, [d] => if d.pl = true ∧ D.pls xs = true ∧ d.py.depth ≤ 60 then (Rs.of (PySem.SeqAt.dataPlace (D.pys xs) d.py)).bind fun j => .ok (.int (j : Nat)) else .stuck
  | .count, .lst xs, [.int k] => (Rs.of (intsD xs)).bind fun ns => .ok (.int (ns.count k))
  | _, _, _ => .stuck
@[simp] def Bm.looks : Bm → Bool
  | .index => true
  | .count => true
  | _ => false

/-! ### slots -/
@[simp] def setS (sl : Sls) (i : Nat) (x : Sl) : Rs Sls := match sl[i]? with
  | some (.ow false _) => .stuck
  | some _ => .ok (sl.set i x)
  | none => .stuck
@[simp] def setAll : Sls → List Nat → List D → Rs Sls
  | sl, [], [] => .ok sl
  | sl, i :: is, d :: ds => (setS sl i (.va d)).bind fun sl => setAll sl is ds
  | _, _, _ => .stuck
@[simp] def giveT (tg : Tgt) (d : D) (sl : Sls) : Rs Sls := match tg, d with
  | .one i, d => setS sl i (.va d)
  | .many is, .tup ds => setAll sl is ds
  | .many _, _ => .stuck
@[simp] def wipeS (sl : Sls) : List Nat → Sls
  | [] => sl
  | v :: vs => (wipeS sl vs).set v .un
def backS (orig sl : Sls) : List Nat → Sls
  | [] => sl
  | v :: vs => match orig[v]? with
    | some x => (backS orig sl vs).set v x
    | none => backS orig sl vs
@[simp] def calmS (sl : Sls) (vs : List Nat) : Bool := vs.all fun v => match sl[v]? with
  | some .un => true
  | some (.va _) => true
  | _ => false
/-- settle the values that are put into a list -/
@[simp] def settleR : Sls → List Rv → Rs (List D × Sls)
  | sl, [] => .ok ([], sl)
  | sl, r :: rs => (Rs.of (settle sl r)).bind fun p => (settleR p.2 rs).bind fun q => .ok (p.1 :: q.1, q.2)
@[simp] def viewR (sl : Sls) : List Rv → Rs (List D)
  | [] => .ok []
  | r :: rs => (Rs.of (view sl r)).bind fun d => (viewR sl rs).bind fun ds => .ok (d :: ds)

/-- the arguments as a callee has them; io: the place of the one that it may change -/
@[simp] def argS (sl : Sls) (io : Option Nat) (rs : List Rv) : Rs (List Sl) := (viewR sl rs).bind fun ds => match io with
  | none => .ok (ds.map Sl.va)
  | some k => (match rs[k]? with
    | some (.s i) => (match sl[i]? with
      | some (.ow _ p) => .ok ((ds.map Sl.va).set k (.ow false p))
      | _ => .stuck)
    | _ => .stuck)
@[simp] def Rv.root : Rv → Option Nat
  | .s i => some i
  | _ => none
abbrev CF := Nat → List Sl → Rs (Rv × Option OP)
@[simp] def OP.flat : OP → Bool
  | .lst xs => (scs xs).isSome
  | _ => false
/-- a def is called -/
@[simp] def doCall (cf : CF) (io : Option Nat) (f : Nat) (rs : List Rv) (sl : Sls) : Rs (Rv × Sls) :=
  (argS sl io rs).bind fun as => (cf f as).bind fun q =>
    match io with
    | none => (match q.2 with
      | none => if q.1.flat = true then .ok (q.1, sl) else (settleR sl rs).bind fun z => .ok (q.1, z.2)
      | some _ => .stuck)
    | some k => (match rs[k]?, q.2 with
      | some (.s i), some p => if ((rs.set k (.va .non)).all fun r => decide (r.root ≠ some i)) = true then
          (if q.1.flat = true ∧ p.flat = true then (match sl[i]? with
            | some (.ow b _) => .ok (q.1, sl.set i (.ow b p))
            | _ => .stuck)
          else (settleR sl (rs.set k (.va .non))).bind fun z => (match z.2[i]? with
            | some (.ow b _) => .ok (q.1, z.2.set i (.ow b p))
            | _ => .stuck)) else .stuck
      | _, _ => .stuck)
/-- an instance is made -/
@[simp] def doMake (cf : CF) (io : Option Nat) (c f : Nat) (rs : List Rv) (sl : Sls) : Rs (Rv × Sls) :=
  (settleR sl rs).bind fun z => (cf f (.ow false (.obj c []) :: z.1.map Sl.va)).bind fun q =>
    match io, q.1, q.2 with
    | some 0, .va .non, some p => .ok (.fr p, z.2)
    | _, _, _ => .stuck
@[simp] def fldD (sl : Sls) (c f : Nat) : Rv → Rs Rv
  | .va (.obj c' fs) => if c' = c then (Rs.of (fs.lookup f)).bind fun d => .ok (.va d) else .stuck
  | .s i => match sl[i]? with
    | some (.ow _ (.obj c' fs)) => if c' = c then (Rs.of (fs.lookup f)).bind fun x => match x with
      | .fz d => .ok (.va d)
      | .ol _ => .stuck else .stuck
    | _ => .stuck
  | _ => .stuck
/-- it is an instance of the class c, without a field m -/
@[simp] def clsOf (sl : Sls) (c m : Nat) : Rv → Rs Unit
  | .va (.obj c' fs) => if c' = c ∧ fs.lookup m = none then .ok () else .stuck
  | .s i => match sl[i]? with
    | some (.ow _ (.obj c' fs)) => if c' = c ∧ fs.lookup m = none then .ok () else .stuck
    | _ => .stuck
  | _ => .stuck
@[simp] def lstD : D → Rs Unit
  | .lst _ => .ok ()
  | _ => .stuck
/-- the list that a method changes -/
@[simp] def ownL (sl : Sls) : Rv → Option (List D)
  | .s i => match sl[i]? with
    | some (.ow _ (.lst xs)) => some xs
    | _ => none
  | _ => none
@[simp] def setL (sl : Sls) (ys : List D) : Rv → Sls
  | .s i => match sl[i]? with
    | some (.ow b _) => sl.set i (.ow b (.lst ys))
    | _ => sl
  | _ => sl
/-! ### loops -/
def lcLoop (body : D → Sls → Rs (Option D × Sls)) : List D → Sls → Rs (List D × Sls)
  | [], sl => .ok ([], sl)
  | d :: ds, sl => (body d sl).bind fun q => (lcLoop body ds q.2).bind fun p => .ok ((match q.1 with | some y => y :: p.1 | none => p.1), p.2)

inductive Fl where
  | nx | brk | ct | ret (r : Rv)
def forLoop (body : D → Sls → Rs (Fl × Sls)) : List D → Sls → Rs (Fl × Sls)
  | [], sl => .ok (.nx, sl)
  | d :: ds, sl => (body d sl).bind fun q => match q.1 with
    | .nx => forLoop body ds q.2
    | .ct => forLoop body ds q.2
    | .brk => .ok (.nx, q.2)
    | .ret r => .ok (.ret r, q.2)
def whlLoop (test : Sls → Rs (Bool × Sls)) (body : Sls → Rs (Fl × Sls)) : Nat → Sls → Rs (Fl × Sls)
  | 0, _ => .stuck
  | n + 1, sl => (test sl).bind fun b => if b.1 = true then (body b.2).bind fun q => (match q.1 with
      | .nx => whlLoop test body n q.2
      | .ct => whlLoop test body n q.2
      | .brk => .ok (.nx, q.2)
      | .ret r => .ok (.ret r, q.2)) else .ok (.nx, b.2)

/-- def table -/
abbrev Tab := Nat → Option PDef
section
variable (T : Tab) (cf : CF)
def ioOf (f : Nat) : Option Nat := (T f).bind fun d => d.io.findIdx? id
mutual
@[simp] def evE : PE → Sls → Rs (Rv × Sls)
  | .var i, sl => (match sl[i]? with
    | some (.va d) => .ok (.va d, sl)
    | some (.ow _ _) => .ok (.s i, sl)
    | _ => .stuck)
  | .cI i, sl => .ok (.va (.int i), sl)
  | .cB b, sl => .ok (.va (.bl b), sl)
  | .cN, sl => .ok (.va .non, sl)
  | .cS s, sl => .ok (.va (.str s), sl)
  | .gI _ i, sl => .ok (.va (.int i), sl)
  | .tup es, sl => (evEs es sl).bind fun p => (settleR p.2 p.1).bind fun q => if q.1.length ≤ sizeLine then .ok (.va (.tup q.1), q.2) else .stuck
  | .lst es, sl => (evEs es sl).bind fun p => (settleR p.2 p.1).bind fun q => if q.1.length ≤ sizeLine then .ok (.fr (.lst q.1), q.2) else .stuck
  | .bin op a b, sl => (evE a sl).bind fun p => (evE b p.2).bind fun q => (Rs.of (view q.2 p.1)).bind fun x => (Rs.of (view q.2 q.1)).bind fun y => (binD op x y).bind fun r => .ok (r, q.2)
  | .neg a, sl => (evE a sl).bind fun p => (Rs.of (view p.2 p.1)).bind fun x => (intD x).bind fun i => .ok (.va (.int (-i)), p.2)
  | .cmp op a b, sl => (evE a sl).bind fun p => (evE b p.2).bind fun q => (Rs.of (view q.2 p.1)).bind fun x => (Rs.of (view q.2 q.1)).bind fun y => (cmpD op x y).bind fun k => .ok (.va (.bl k), q.2)
  | .chain op op' a b c, sl => (evE a sl).bind fun p => (evE b p.2).bind fun q => (Rs.of (view q.2 p.1)).bind fun x => (Rs.of (view q.2 q.1)).bind fun y => (cmpD op x y).bind fun k =>
      if k = true then (evE c q.2).bind fun r => (Rs.of (view r.2 q.1)).bind fun y => (Rs.of (view r.2 r.1)).bind fun z => (cmpD op' y z).bind fun k => .ok (.va (.bl k), r.2) else .ok (.va (.bl false), q.2)
  | .isN a, sl => (evE a sl).bind fun p => (Rs.of (view p.2 p.1)).bind fun x => .ok (.va (.bl (nonD x)), p.2)
  | .notN a, sl => (evE a sl).bind fun p => (Rs.of (view p.2 p.1)).bind fun x => .ok (.va (.bl (!nonD x)), p.2)
  | .and es, sl => evAnd es sl
  | .or es, sl => evOr es sl
  | .not a, sl => (evE a sl).bind fun p => (Rs.of (view p.2 p.1)).bind fun x => (boolD x).bind fun k => .ok (.va (.bl (!k)), p.2)
  | .ife t a b, sl => (evT t sl).bind fun p => if p.1 = true then evE a p.2 else evE b p.2
  | .ix a b, sl => (evE a sl).bind fun p => (evE b p.2).bind fun q => (Rs.of (view q.2 p.1)).bind fun x => (Rs.of (view q.2 q.1)).bind fun y => (ixD x y).bind fun d => .ok (.va d, q.2)
  | .sl a lo hi, sl => (evE a sl).bind fun p => (evO lo p.2).bind fun l => (evO hi l.2).bind fun h => (Rs.of (view h.2 p.1)).bind fun x => (slD x l.1 h.1).bind fun r => .ok (r, h.2)
  | .fld a c f, sl => (evE a sl).bind fun p => (fldD p.2 c f p.1).bind fun r => .ok (r, p.2)
  | .call f es, sl => (evEs es sl).bind fun p => doCall cf (ioOf T f) f p.1 p.2
  | .make c f es, sl => (evEs es sl).bind fun p => doMake cf (ioOf T f) c f p.1 p.2
  | .meth a c m f es, sl => (evE a sl).bind fun o => (clsOf o.2 c m o.1).bind fun _ => (evEs es o.2).bind fun p => doCall cf (ioOf T f) f (o.1 :: p.1) p.2
  | .bi b es, sl => (evEs es sl).bind fun p => (viewR p.2 p.1).bind fun ds => (biD b ds).bind fun r => .ok (r, p.2)
  | .bm m a es, sl => (evE a sl).bind fun o => (Rs.of (view o.2 o.1)).bind fun x => (lstD x).bind fun _ => (evEs es o.2).bind fun p => if m.looks = true then
      (Rs.of (view p.2 o.1)).bind fun x => (viewR p.2 p.1).bind fun ds => (blD m x ds).bind fun d => .ok (.va d, p.2)
      else (settleR p.2 p.1).bind fun q => (Rs.of (ownL q.2 o.1)).bind fun xs => (bmD m xs q.1).bind fun r => .ok (.va r.1, setL q.2 r.2 o.1)
  | .lc own tg it cond elt, sl => (evI it sl).bind fun p => if calmS p.2 own = true ∧ p.1.length < sizeLine then
      (lcLoop (fun d sl => (giveT tg d (wipeS sl own)).bind fun sl => (evC cond sl).bind fun c => if c.1 = true then (evE elt c.2).bind fun r => (Rs.of (settle r.2 r.1)).bind fun y => if calmS y.2 own = true then .ok (some y.1, y.2) else .stuck
        else if calmS c.2 own = true then .ok (none, c.2) else .stuck) p.1 p.2).bind fun q =>
        if calmS q.2 own = true then .ok (.fr (.lst q.1), backS p.2 q.2 own) else .stuck else .stuck
  | .nvr, _ => .stuck
@[simp] def evEs : PEs → Sls → Rs (List Rv × Sls)
  | .nil, sl => .ok ([], sl)
  | .cons e es, sl => (evE e sl).bind fun p => (evEs es p.2).bind fun q => .ok (p.1 :: q.1, q.2)
@[simp] def evO : POpt → Sls → Rs (Option Int × Sls)
  | .none, sl => .ok (none, sl)
  | .some e, sl => (evE e sl).bind fun p => (Rs.of (view p.2 p.1)).bind fun x => (intD x).bind fun i => .ok (some i, p.2)
/-- a comprehension's test -/
@[simp] def evC : POpt → Sls → Rs (Bool × Sls)
  | .none, sl => .ok (true, sl)
  | .some e, sl => evT e sl
/-- a test -/
@[simp] def evT : PE → Sls → Rs (Bool × Sls)
  | .not a, sl => (evT a sl).bind fun p => .ok (!p.1, p.2)
  | .and es, sl => evAndT es sl
  | .or es, sl => evOrT es sl
  | e, sl => (evE e sl).bind fun p => (Rs.of (view p.2 p.1)).bind fun x => (boolD x).bind fun k => .ok (k, p.2)
@[simp] def evAndT : PEs → Sls → Rs (Bool × Sls)
  | .nil, _ => .stuck
  | .cons e .nil, sl => evT e sl
  | .cons e es, sl => (evT e sl).bind fun p => if p.1 = true then evAndT es p.2 else .ok (false, p.2)
@[simp] def evOrT : PEs → Sls → Rs (Bool × Sls)
  | .nil, _ => .stuck
  | .cons e .nil, sl => evT e sl
  | .cons e es, sl => (evT e sl).bind fun p => if p.1 = true then .ok (true, p.2) else evOrT es p.2
@[simp] def evAnd : PEs → Sls → Rs (Rv × Sls)
  | .nil, _ => .stuck
  | .cons e .nil, sl => evE e sl
  | .cons e es, sl => (evE e sl).bind fun p => (Rs.of (view p.2 p.1)).bind fun x => (boolD x).bind fun k => if k = true then evAnd es p.2 else .ok (.va (.bl false), p.2)
@[simp] def evOr : PEs → Sls → Rs (Rv × Sls)
  | .nil, _ => .stuck
  | .cons e .nil, sl => evE e sl
  | .cons e es, sl => (evE e sl).bind fun p => (Rs.of (view p.2 p.1)).bind fun x => (boolD x).bind fun k => if k = true then .ok (.va (.bl true), p.2) else evOr es p.2
/-- what is walked -/
@[simp] def evI : PI → Sls → Rs (List D × Sls)
  | .of e, sl => (evE e sl).bind fun p => (Rs.of (settle p.2 p.1)).bind fun q => (match q.1 with
    | .lst xs => .ok (xs, q.2)
    | .tup xs => .ok (xs, q.2)
    | .scr ns => .ok (ns.map .int, q.2)
    | _ => .stuck)
  | .rng1 a, sl => (evE a sl).bind fun p => (Rs.of (view p.2 p.1)).bind fun x => (intD x).bind fun n => if n < 2 ^ 62 ∧ -(2 ^ 62) ≤ n then .ok (rangeD 0 n, p.2) else .stuck
  | .rng2 a b, sl => (evE a sl).bind fun p => (evE b p.2).bind fun q => (Rs.of (view q.2 p.1)).bind fun x => (Rs.of (view q.2 q.1)).bind fun y => (intD x).bind fun m => (intD y).bind fun n =>
      if -(2 ^ 62) ≤ m ∧ m < 2 ^ 62 ∧ -(2 ^ 62) ≤ n ∧ n < 2 ^ 62 then .ok (rangeD m n, q.2) else .stuck
  | .enum a, sl => (evE a sl).bind fun p => (Rs.of (settle p.2 p.1)).bind fun q => (match q.1 with
    | .lst xs => .ok (xs.zipIdx.map fun z => .tup [.int z.2, z.1], q.2)
    | _ => .stuck)
  | .rev a, sl => (evE a sl).bind fun p => (Rs.of (settle p.2 p.1)).bind fun q => (match q.1 with
    | .lst xs => .ok (xs.reverse, q.2)
    | _ => .stuck)
end
variable (wf : Nat)
mutual
@[simp] def evS : PS → Sls → Rs (Fl × Sls)
  | .asg i e, sl => (evE T cf e sl).bind fun p => (match p.1 with
    | .va d => (setS p.2 i (.va d)).bind fun sl => .ok (.nx, sl)
    | .fr q => (setS p.2 i (.ow true q)).bind fun sl => .ok (.nx, sl)
    | r => (Rs.of (settle p.2 r)).bind fun q => (setS q.2 i (.va q.1)).bind fun sl => .ok (.nx, sl))
  | .asgT is e, sl => (evE T cf e sl).bind fun p => (Rs.of (settle p.2 p.1)).bind fun q => (match q.1 with
    | .tup ds => (setAll q.2 is ds).bind fun sl => .ok (.nx, sl)
    | _ => .stuck)
  | .setix a b e, sl => (evE T cf e sl).bind fun p => (evE T cf a p.2).bind fun o => (evE T cf b o.2).bind fun i => (Rs.of (settle i.2 p.1)).bind fun d => (Rs.of (ownL d.2 o.1)).bind fun xs => (Rs.of (view d.2 i.1)).bind fun k => (intD k).bind fun k =>
      (Rs.of (ixN xs.length k)).bind fun j => .ok (.nx, setL d.2 (xs.set j d.1) o.1)
  | .setfld i c f e, sl => (evE T cf e sl).bind fun p => (Rs.of (settle p.2 p.1)).bind fun q => (match q.2[i]? with
      | some (.ow b (.obj c' fs)) => if c' = c ∧ fs.length < 1000 then .ok (.nx, q.2.set i (.ow b (.obj c (putA f (.fz q.1) fs)))) else .stuck
      | _ => .stuck)
  | .aug i op e, sl => (evE T cf e sl).bind fun p => (Rs.of (view p.2 p.1)).bind fun y => (intD y).bind fun y => (match sl[i]?, op with
    | some (.va (.int x)), .add => (setS p.2 i (.va (.int (x + y)))).bind fun sl => .ok (.nx, sl)
    | some (.va (.int x)), .sub => (setS p.2 i (.va (.int (x - y)))).bind fun sl => .ok (.nx, sl)
    | _, _ => .stuck)
  | .ex e, sl => (evE T cf e sl).bind fun p => .ok (.nx, p.2)
  | .ret e, sl => (evE T cf e sl).bind fun p => (match p.1 with
    | .va d => .ok (.ret (.va d), p.2)
    | .fr q => .ok (.ret (.fr q), p.2)
    | .s i => (match p.2[i]? with
      | some (.ow true q) => .ok (.ret (.fr q), p.2.set i .un)
      | some (.va d) => .ok (.ret (.va d), p.2)
      | _ => .stuck))
  | .retN, sl => .ok (.ret (.va .non), sl)
  | .ite c a b, sl => (evT T cf c sl).bind fun p => if p.1 = true then evSs a p.2 else evSs b p.2
  | .for tg it body, sl => (evI T cf it sl).bind fun p => forLoop (fun d sl => (giveT tg d sl).bind fun sl => evSs body sl) p.1 p.2
  | .whl c body, sl => whlLoop (fun sl => evT T cf c sl) (fun sl => evSs body sl) wf sl
  | .pass, sl => .ok (.nx, sl)
  | .doc, sl => .ok (.nx, sl)
  | .never, _ => .stuck
@[simp] def evSs : PSs → Sls → Rs (Fl × Sls)
  | .nil, sl => .ok (.nx, sl)
  | .cons s ss, sl => (evS s sl).bind fun q => (match q.1 with
    | .nx => evSs ss q.2
    | f => .ok (f, q.2))
end
end
/-- what is left of the parameter that may be changed -/
@[simp] def endIo (io : Option Nat) (sl : Sls) : Rs (Option OP) := match io with
  | none => .ok none
  | some k => match sl[k]? with
    | some (.ow false p) => .ok (some p)
    | _ => .stuck
/-- a def's value, by the depth of calls; pr: the defs whose value is told apart -/
def evF (T : Tab) (pr : Nat → CF) (wf : Nat) : Nat → CF
  | 0, _, _ => .stuck
  | n + 1, f, as => match T f with
    | none => .stuck
    | some d => if as.length = d.np then
        (if d.own = true then (endIo (d.io.findIdx? id) as).bind fun _ => (evSs T (evF T pr wf n) wf d.body (as ++ List.replicate (d.ns - d.np) .un)).bind fun q => (endIo (d.io.findIdx? id) q.2).bind fun p => (match q.1 with
          | .nx => .ok (.va .non, p)
          | .ret r => .ok (r, p)
          | _ => .stuck) else pr n f as) else .stuck
end Pf

/-! Pf2: data in the heap; what frames own -/
namespace Pf
open PySem L2

/-- what data lean on: the written part, the classes' places, the fields' names -/
structure Gx where
  K : PySem.W.Frag
  CA : Nat → Addr
  FN : Nat → Str
  fi : ∀ f g, FN f = FN g → f = g

mutual
def Rep (G : Gx) (H : Hp) : V → D → Prop
  | v, .non => v = .non
  | v, .bl b => v = .bl b
  | v, .int i => v = .int i
  | v, .str s => v = .str s
  | v, .lst xs => ∃ a vs, v = .ref a ∧ H a = some (.lst vs) ∧ Reps G H vs xs
  | v, .tup xs => ∃ a vs, v = .ref a ∧ H a = some (.tup vs) ∧ Reps G H vs xs
  | v, .obj c fs => ∃ a dx gs, v = .ref a ∧ H a = some (.ins (G.CA c) dx gs) ∧ RepF G H gs fs
  | v, .scr ns => ∃ a, v = .ref a ∧ SqL G.K H a (ns.map V.int)
def Reps (G : Gx) (H : Hp) : List V → List D → Prop
  | vs, [] => vs = []
  | vs, d :: ds => ∃ v r, vs = v :: r ∧ Rep G H v d ∧ Reps G H r ds
def RepF (G : Gx) (H : Hp) : List (Str × V) → List (Nat × D) → Prop
  | gs, [] => gs = []
  | gs, (f, d) :: fs => ∃ v r, gs = (G.FN f, v) :: r ∧ Rep G H v d ∧ RepF G H r fs
end

section
variable {G : Gx} {H H' : Hp}
mutual
theorem Rep.mono (e : Same H H') : ∀ {d : D} {v : V}, Rep G H v d → Rep G H' v d
  | .non, _, h => h
  | .bl _, _, h => h
  | .int _, _, h => h
  | .str _, _, h => h
  | .lst xs, v, h => by
    obtain ⟨a, vs, e1, e2, e3⟩ := h
    exact ⟨a, vs, e1, e _ _ e2, Reps.mono e e3⟩
  | .tup xs, v, h => by
    obtain ⟨a, vs, e1, e2, e3⟩ := h
    exact ⟨a, vs, e1, e _ _ e2, Reps.mono e e3⟩
  | .obj c fs, v, h => by
    obtain ⟨a, dx, gs, e1, e2, e3⟩ := h
    exact ⟨a, dx, gs, e1, e _ _ e2, RepF.mono e e3⟩
  | .scr ns, v, h => by
    obtain ⟨a, e1, e2⟩ := h
    exact ⟨a, e1, e.seq e2⟩
theorem Reps.mono (e : Same H H') : ∀ {ds : List D} {vs : List V}, Reps G H vs ds → Reps G H' vs ds
  | [], _, h => h
  | d :: ds, vs, h => by
    obtain ⟨v, r, e1, e2, e3⟩ := h
    exact ⟨v, r, e1, Rep.mono e e2, Reps.mono e e3⟩
theorem RepF.mono (e : Same H H') : ∀ {fs : List (Nat × D)} {gs : List (Str × V)}, RepF G H gs fs → RepF G H' gs fs
  | [], _, h => h
  | (f, d) :: fs, gs, h => by
    obtain ⟨v, r, e1, e2, e3⟩ := h
    exact ⟨v, r, e1, Rep.mono e e2, RepF.mono e e3⟩
end
theorem Reps.len : ∀ {ds : List D} {vs : List V}, Reps G H vs ds → vs.length = ds.length
  | [], _, h => by rw [show _ = [] from h]; rfl
  | d :: ds, vs, h => by
    obtain ⟨v, r, e1, _, e3⟩ := h
    subst e1
    rw [List.length_cons, List.length_cons, Reps.len e3]
theorem Reps.app : ∀ {ds es : List D} {vs us : List V}, Reps G H vs ds → Reps G H us es → Reps G H (vs ++ us) (ds ++ es)
  | [], _, vs, us, h, k => by rw [show vs = [] from h]; exact k
  | d :: ds, es, vs, us, h, k => by
    obtain ⟨v, r, e1, e2, e3⟩ := h
    subst e1
    exact ⟨v, r ++ us, rfl, e2, Reps.app e3 k⟩
theorem Reps.get : ∀ {ds : List D} {vs : List V} {i : Nat} {d : D}, Reps G H vs ds → ds[i]? = some d → ∃ v, vs[i]? = some v ∧ Rep G H v d
  | [], _, _, _, _, e => by simp at e
  | x :: ds, vs, 0, d, h, e => by
    obtain ⟨v, r, e1, e2, e3⟩ := h
    subst e1
    simp at e
    subst e
    exact ⟨v, rfl, e2⟩
  | x :: ds, vs, i + 1, d, h, e => by
    obtain ⟨v, r, e1, e2, e3⟩ := h
    subst e1
    obtain ⟨u, q1, q2⟩ := Reps.get (i := i) e3 (by simpa using e)
    exact ⟨u, by simpa using q1, q2⟩
theorem Reps.getV : ∀ {ds : List D} {vs : List V} {i : Nat} {v : V}, Reps G H vs ds → vs[i]? = some v → ∃ d, ds[i]? = some d ∧ Rep G H v d
  | [], vs, _, _, h, e => by rw [show vs = [] from h] at e; simp at e
  | x :: ds, vs, 0, w, h, e => by
    obtain ⟨v, r, e1, e2, e3⟩ := h
    subst e1
    simp at e
    subst e
    exact ⟨x, rfl, e2⟩
  | x :: ds, vs, i + 1, w, h, e => by
    obtain ⟨v, r, e1, e2, e3⟩ := h
    subst e1
    obtain ⟨u, q1, q2⟩ := Reps.getV (i := i) e3 (by simpa using e)
    exact ⟨u, by simpa using q1, q2⟩
theorem Reps.take : ∀ {ds : List D} {vs : List V} (n : Nat), Reps G H vs ds → Reps G H (vs.take n) (ds.take n)
  | _, _, 0, _ => rfl
  | [], vs, n + 1, h => by rw [show vs = [] from h]; rfl
  | d :: ds, vs, n + 1, h => by
    obtain ⟨v, r, e1, e2, e3⟩ := h
    subst e1
    exact ⟨v, r.take n, rfl, e2, Reps.take n e3⟩
theorem Reps.drop : ∀ {ds : List D} {vs : List V} (n : Nat), Reps G H vs ds → Reps G H (vs.drop n) (ds.drop n)
  | _, _, 0, h => h
  | [], vs, n + 1, h => by rw [show vs = [] from h]; rfl
  | d :: ds, vs, n + 1, h => by
    obtain ⟨v, r, e1, e2, e3⟩ := h
    subst e1
    exact Reps.drop n e3
theorem Reps.cut {ds : List D} {vs : List V} (lo hi : Option Int) (h : Reps G H vs ds) : Reps G H (cutV vs lo hi) (cutA ds lo hi) := by
  unfold cutV cutA
  rw [h.len]
  exact (h.drop _).take _
theorem Reps.rev : ∀ {ds : List D} {vs : List V}, Reps G H vs ds → Reps G H vs.reverse ds.reverse
  | [], vs, h => by rw [show vs = [] from h]; rfl
  | d :: ds, vs, h => by
    obtain ⟨v, r, e1, e2, e3⟩ := h
    subst e1
    rw [List.reverse_cons, List.reverse_cons]
    exact Reps.app (Reps.rev e3) ⟨v, [], rfl, e2, rfl⟩
theorem Reps.set {v : V} {d : D} (k : Rep G H v d) : ∀ {ds : List D} {vs : List V} (i : Nat), Reps G H vs ds → Reps G H (vs.set i v) (ds.set i d)
  | [], vs, i, h => by rw [show vs = [] from h]; rfl
  | x :: ds, vs, 0, h => by
    obtain ⟨u, r, e1, e2, e3⟩ := h
    subst e1
    exact ⟨v, r, rfl, k, e3⟩
  | x :: ds, vs, i + 1, h => by
    obtain ⟨u, r, e1, e2, e3⟩ := h
    subst e1
    exact ⟨u, r.set i v, rfl, e2, Reps.set k i e3⟩
theorem Reps.erase : ∀ {ds : List D} {vs : List V} (i : Nat), Reps G H vs ds → Reps G H (vs.eraseIdx i) (ds.eraseIdx i)
  | [], vs, i, h => by rw [show vs = [] from h]; rfl
  | x :: ds, vs, 0, h => by
    obtain ⟨u, r, e1, e2, e3⟩ := h
    subst e1
    exact e3
  | x :: ds, vs, i + 1, h => by
    obtain ⟨u, r, e1, e2, e3⟩ := h
    subst e1
    exact ⟨u, r.eraseIdx i, rfl, e2, Reps.erase i e3⟩
theorem Reps.rep {ds : List D} {vs : List V} (h : Reps G H vs ds) : ∀ k : Nat, Reps G H (List.replicate k vs).flatten (List.replicate k ds).flatten
  | 0 => rfl
  | k + 1 => by
    rw [List.replicate_succ, List.replicate_succ, List.flatten_cons, List.flatten_cons]
    exact h.app (Reps.rep h k)
theorem reps_int : ∀ (ns : List Int), Reps G H (ns.map V.int) (ns.map D.int)
  | [] => rfl
  | n :: ns => ⟨_, _, rfl, rfl, reps_int ns⟩
theorem Reps.ints : ∀ {ds : List D} {vs : List V} {ns : List Int}, Reps G H vs ds → intsD ds = some ns → vs = ns.map V.int
  | [], vs, ns, h, e => by
    rw [show vs = [] from h]
    simp [intsD] at e
    subst e; rfl
  | d :: ds, vs, ns, h, e => by
    obtain ⟨v, r, e1, e2, e3⟩ := h
    subst e1
    cases d with
    | int i =>
      simp only [intsD, Option.map_eq_some_iff] at e
      obtain ⟨ms, q1, q2⟩ := e
      subst q2
      rw [show v = V.int i from e2, Reps.ints e3 q1]; rfl
    | _ => simp [intsD] at e
theorem Reps.bls : ∀ {ds : List D} {vs : List V} {ns : List Bool}, Reps G H vs ds → Pf.bls ds = some ns → vs = ns.map V.bl
  | [], vs, ns, h, e => by
    rw [show vs = [] from h]
    simp [Pf.bls] at e
    subst e; rfl
  | d :: ds, vs, ns, h, e => by
    obtain ⟨v, r, e1, e2, e3⟩ := h
    subst e1
    cases d with
    | bl i =>
      simp only [Pf.bls, Option.map_eq_some_iff] at e
      obtain ⟨ms, q1, q2⟩ := e
      subst q2
      rw [show v = V.bl i from e2, Reps.bls e3 q1]; rfl
    | _ => simp [Pf.bls] at e
theorem Rep.sc {d : D} {v x : V} (h : Rep G H v d) (e : d.sc = some x) : v = x := by
  cases d <;> simp [D.sc] at e <;> subst e <;> exact h
theorem rep_sc {d : D} {x : V} (e : d.sc = some x) : Rep G H x d := by
  cases d <;> simp [D.sc] at e <;> subst e <;> rfl
theorem Reps.scs : ∀ {ds : List D} {vs xs : List V}, Reps G H vs ds → Pf.scs ds = some xs → vs = xs
  | [], vs, xs, h, e => by
    rw [show vs = [] from h]
    simp [Pf.scs] at e
    exact e.symm
  | d :: ds, vs, xs, h, e => by
    obtain ⟨v, r, e1, e2, e3⟩ := h
    subst e1
    unfold Pf.scs at e
    cases q : d.sc with
    | none => rw [q] at e; simp at e
    | some x =>
      cases q2 : Pf.scs ds with
      | none => rw [q, q2] at e; simp at e
      | some ys =>
        rw [q, q2] at e
        simp at e
        subst e
        rw [e2.sc q, Reps.scs e3 q2]
theorem reps_scs : ∀ {ds : List D} {xs : List V}, Pf.scs ds = some xs → Reps G H xs ds
  | [], xs, e => by simp [Pf.scs] at e; exact e
  | d :: ds, xs, e => by
    unfold Pf.scs at e
    cases q : d.sc with
    | none => rw [q] at e; simp at e
    | some x =>
      cases q2 : Pf.scs ds with
      | none => rw [q, q2] at e; simp at e
      | some ys =>
        rw [q, q2] at e
        simp at e
        subst e
        exact ⟨x, ys, rfl, rep_sc q, reps_scs q2⟩
mutual
theorem Rep.dp : ∀ {d : D} {v : V}, Rep G H v d → d.pl = true → Dp G.K H v d.py
  | .non, v, h, _ => by rw [show v = _ from h]; simp only [D.py]; exact .non
  | .bl _, v, h, _ => by rw [show v = _ from h]; simp only [D.py]; exact .bl _
  | .int _, v, h, _ => by rw [show v = _ from h]; simp only [D.py]; exact .int _
  | .str _, v, h, _ => by rw [show v = _ from h]; simp only [D.py]; exact .str _
  | .lst xs, v, h, p => by
    obtain ⟨a, vs, e1, e2, e3⟩ := h
    subst e1
    simp only [D.py]
    exact .lst (SqL.of e2) (Reps.dp e3 (by simpa [D.pl] using p))
  | .tup xs, v, h, p => by
    obtain ⟨a, vs, e1, e2, e3⟩ := h
    subst e1
    simp only [D.py]
    exact .tup (SqT.of e2) (Reps.dp e3 (by simpa [D.pl] using p))
  | .obj _ _, _, _, p => by simp [D.pl] at p
  | .scr _, _, _, p => by simp [D.pl] at p
theorem Reps.dp : ∀ {ds : List D} {vs : List V}, Reps G H vs ds → D.pls ds = true → DpAll G.K H vs (D.pys ds)
  | [], vs, h, _ => by rw [show vs = [] from h]; exact .nil
  | d :: ds, vs, h, p => by
    obtain ⟨v, r, e1, e2, e3⟩ := h
    subst e1
    have p' : d.pl = true ∧ D.pls ds = true := by simpa [D.pls] using p
    exact .cons (Rep.dp e2 p'.1) (Reps.dp e3 p'.2)
end
theorem RepF.look : ∀ {fs : List (Nat × D)} {gs : List (Str × V)} {f : Nat} {d : D}, RepF G H gs fs → fs.lookup f = some d → ∃ v, gs.lookup (G.FN f) = some v ∧ Rep G H v d
  | [], _, _, _, _, e => by simp at e
  | (g, x) :: fs, gs, f, d, h, e => by
    obtain ⟨v, r, e1, e2, e3⟩ := h
    subst e1
    by_cases q : f = g
    · subst q
      simp at e
      subst e
      exact ⟨v, by simp, e2⟩
    · have q1 : (f == g) = false := by simpa using q
      have q2 : (G.FN f == G.FN g) = false := by
        have : G.FN f ≠ G.FN g := fun z => q (G.fi _ _ z)
        simpa using this
      rw [List.lookup_cons, q1] at e
      obtain ⟨u, z1, z2⟩ := RepF.look e3 e
      exact ⟨u, by rw [List.lookup_cons, q2]; exact z1, z2⟩
theorem RepF.names : ∀ {fs : List (Nat × D)} {gs : List (Str × V)}, RepF G H gs fs → gs.map (·.1) = fs.map fun p => G.FN p.1
  | [], gs, h => by rw [show gs = [] from h]; rfl
  | (g, x) :: fs, gs, h => by
    obtain ⟨v, r, e1, e2, e3⟩ := h
    subst e1
    simp [RepF.names e3]
end

/-! ### what is hidden -/
abbrev AS := Addr → Prop
open Classical in
noncomputable def hide (H : Hp) (P : AS) : Hp := fun b => if P b then none else H b
theorem hide_yes {H : Hp} {P : AS} {b : Addr} (h : P b) : hide H P b = none := by unfold hide; rw [if_pos h]
theorem hide_no {H : Hp} {P : AS} {b : Addr} (h : ¬ P b) : hide H P b = H b := by unfold hide; rw [if_neg h]
theorem hide_some {H : Hp} {P : AS} {b : Addr} {o : HO} (h : hide H P b = some o) : ¬ P b ∧ H b = some o := by
  by_cases q : P b
  · rw [hide_yes q] at h; cases h
  · rw [hide_no q] at h; exact ⟨q, h⟩
theorem hide_sub {H : Hp} {P : AS} : Same (hide H P) H := fun b o h => (hide_some h).2
theorem hide_mono {H : Hp} {P P' : AS} (h : ∀ b, P' b → P b) : Same (hide H P) (hide H P') := fun b o e => by
  obtain ⟨n, e⟩ := hide_some e
  rw [hide_no fun z => n (h b z)]
  exact e
/-- a heap that agrees where nothing is hidden -/
theorem hide_same {H H' : Hp} {P P' : AS} (h : ∀ b o, ¬ P b → H b = some o → ¬ P' b ∧ H' b = some o) : Same (hide H P) (hide H' P') := fun b o e => by
  obtain ⟨n, e⟩ := hide_some e
  obtain ⟨n', e'⟩ := h b o n e
  rw [hide_no n']
  exact e'

/-! ### owned things -/
def OwnF (G : Gx) (Hs H : Hp) : List (Nat × F) → List (Str × V) → List Addr → Prop
  | [], gs, B => gs = [] ∧ B = []
  | (f, .fz d) :: fs, gs, B => ∃ v r, gs = (G.FN f, v) :: r ∧ Rep G Hs v d ∧ OwnF G Hs H fs r B
  | (f, .ol ds) :: fs, gs, B => ∃ l vs r B', gs = (G.FN f, .ref l) :: r ∧ B = l :: B' ∧ H l = some (.lst vs) ∧ Reps G Hs vs ds ∧ OwnF G Hs H fs r B'
def Own (G : Gx) (Hs H : Hp) : OP → Addr → List Addr → Prop
  | .lst ds, a, B => B = [a] ∧ ∃ vs, H a = some (.lst vs) ∧ Reps G Hs vs ds
  | .obj c fs, a, B => ∃ dx gs B', B = a :: B' ∧ H a = some (.ins (G.CA c) dx gs) ∧ OwnF G Hs H fs gs B'
section
variable {G : Gx} {Hs Hs' H H' : Hp}
theorem OwnF.mono (e : Same Hs Hs') : ∀ {fs : List (Nat × F)} {gs : List (Str × V)} {B : List Addr}, (∀ b ∈ B, H' b = H b) → OwnF G Hs H fs gs B → OwnF G Hs' H' fs gs B
  | [], _, _, _, h => h
  | (f, .fz d) :: fs, gs, B, k, h => by
    obtain ⟨v, r, e1, e2, e3⟩ := h
    exact ⟨v, r, e1, e2.mono e, OwnF.mono e k e3⟩
  | (f, .ol ds) :: fs, gs, B, k, h => by
    obtain ⟨l, vs, r, B', e1, e2, e3, e4, e5⟩ := h
    subst e2
    exact ⟨l, vs, r, B', e1, rfl, by rw [k l List.mem_cons_self]; exact e3, e4.mono e, OwnF.mono e (fun b hb => k b (List.mem_cons_of_mem _ hb)) e5⟩
theorem Own.mono (e : Same Hs Hs') {p : OP} {a : Addr} {B : List Addr} (k : ∀ b ∈ B, H' b = H b) (h : Own G Hs H p a B) : Own G Hs' H' p a B := by
  cases p with
  | lst ds =>
    obtain ⟨e1, vs, e2, e3⟩ := h
    subst e1
    exact ⟨rfl, vs, by rw [k a List.mem_cons_self]; exact e2, e3.mono e⟩
  | obj c fs =>
    obtain ⟨dx, gs, B', e1, e2, e3⟩ := h
    subst e1
    exact ⟨dx, gs, B', rfl, by rw [k a List.mem_cons_self]; exact e2, e3.mono e fun b hb => k b (List.mem_cons_of_mem _ hb)⟩
theorem OwnF.there : ∀ {fs : List (Nat × F)} {gs : List (Str × V)} {B : List Addr}, OwnF G Hs H fs gs B → ∀ b ∈ B, ∃ o, H b = some o
  | [], _, B, h, b, hb => by rw [h.2] at hb; cases hb
  | (f, .fz d) :: fs, gs, B, h, b, hb => by
    obtain ⟨v, r, e1, e2, e3⟩ := h
    exact OwnF.there e3 b hb
  | (f, .ol ds) :: fs, gs, B, h, b, hb => by
    obtain ⟨l, vs, r, B', e1, e2, e3, e4, e5⟩ := h
    subst e2
    rcases List.mem_cons.mp hb with z | z
    · subst z; exact ⟨_, e3⟩
    · exact OwnF.there e5 b z
theorem Own.there {p : OP} {a : Addr} {B : List Addr} (h : Own G Hs H p a B) : ∀ b ∈ B, ∃ o, H b = some o := fun b hb => by
  cases p with
  | lst ds =>
    obtain ⟨e1, vs, e2, e3⟩ := h
    subst e1
    rcases List.mem_cons.mp hb with z | z
    · subst z; exact ⟨_, e2⟩
    · cases z
  | obj c fs =>
    obtain ⟨dx, gs, B', e1, e2, e3⟩ := h
    subst e1
    rcases List.mem_cons.mp hb with z | z
    · subst z; exact ⟨_, e2⟩
    · exact e3.there b z
theorem OwnF.rep (e : Same Hs Hs') : ∀ {fs : List (Nat × F)} {gs : List (Str × V)} {B : List Addr}, (∀ b ∈ B, ∀ o, H b = some o → Hs' b = some o) → OwnF G Hs H fs gs B → RepF G Hs' gs (fs.map fun p => (p.1, p.2.d))
  | [], _, _, _, h => h.1
  | (f, .fz d) :: fs, gs, B, k, h => by
    obtain ⟨v, r, e1, e2, e3⟩ := h
    exact ⟨v, r, e1, e2.mono e, OwnF.rep e k e3⟩
  | (f, .ol ds) :: fs, gs, B, k, h => by
    obtain ⟨l, vs, r, B', e1, e2, e3, e4, e5⟩ := h
    subst e2
    exact ⟨.ref l, r, e1, ⟨l, vs, rfl, k l List.mem_cons_self _ e3, e4.mono e⟩, OwnF.rep e (fun b hb => k b (List.mem_cons_of_mem _ hb)) e5⟩
/-- an owned thing as data, where its places may be read -/
theorem Own.rep (e : Same Hs Hs') {p : OP} {a : Addr} {B : List Addr} (k : ∀ b ∈ B, ∀ o, H b = some o → Hs' b = some o) (h : Own G Hs H p a B) : Rep G Hs' (.ref a) p.d := by
  cases p with
  | lst ds =>
    obtain ⟨e1, vs, e2, e3⟩ := h
    subst e1
    exact ⟨a, vs, rfl, k a List.mem_cons_self _ e2, e3.mono e⟩
  | obj c fs =>
    obtain ⟨dx, gs, B', e1, e2, e3⟩ := h
    subst e1
    exact ⟨a, dx, gs, rfl, k a List.mem_cons_self _ e2, e3.rep e fun b hb => k b (List.mem_cons_of_mem _ hb)⟩
theorem Own.root {p : OP} {a : Addr} {B : List Addr} (h : Own G Hs H p a B) : a ∈ B := by
  cases p with
  | lst ds => rw [h.1]; exact List.mem_cons_self
  | obj c fs =>
    obtain ⟨dx, gs, B', e1, _⟩ := h
    rw [e1]; exact List.mem_cons_self
theorem Own.inj {p : OP} {a a' : Addr} {B : List Addr} (h : Own G Hs H p a B) (h' : Own G Hs H p a' B) : a = a' := by
  cases p with
  | lst ds =>
    have := h.1.symm.trans h'.1
    injection this
  | obj c fs =>
    obtain ⟨dx, gs, B', e1, _⟩ := h
    obtain ⟨dx', gs', B'', e1', _⟩ := h'
    have := e1.symm.trans e1'
    injection this
theorem OwnF.look : ∀ {fs : List (Nat × F)} {gs : List (Str × V)} {B : List Addr} {f : Nat} {d : D}, OwnF G Hs H fs gs B → fs.lookup f = some (.fz d) → ∃ v, gs.lookup (G.FN f) = some v ∧ Rep G Hs v d
  | [], _, _, _, _, _, e => by simp at e
  | (g, x) :: fs, gs, B, f, d, h, e => by
    by_cases q : f = g
    · subst q
      simp at e
      subst e
      obtain ⟨v, r, e1, e2, e3⟩ := h
      subst e1
      exact ⟨v, by simp, e2⟩
    · have q1 : (f == g) = false := by simpa using q
      have q2 : (G.FN f == G.FN g) = false := by
        have : G.FN f ≠ G.FN g := fun z => q (G.fi _ _ z)
        simpa using this
      rw [List.lookup_cons, q1] at e
      cases x with
      | fz d' =>
        obtain ⟨v, r, e1, e2, e3⟩ := h
        subst e1
        obtain ⟨u, z1, z2⟩ := OwnF.look e3 e
        exact ⟨u, by rw [List.lookup_cons, q2]; exact z1, z2⟩
      | ol ds =>
        obtain ⟨l, vs, r, B', e1, e2, e3, e4, e5⟩ := h
        subst e1
        obtain ⟨u, z1, z2⟩ := OwnF.look e5 e
        exact ⟨u, by rw [List.lookup_cons, q2]; exact z1, z2⟩
theorem OwnF.names : ∀ {fs : List (Nat × F)} {gs : List (Str × V)} {B : List Addr}, OwnF G Hs H fs gs B → gs.map (·.1) = fs.map fun p => G.FN p.1
  | [], gs, _, h => by rw [h.1]; rfl
  | (f, .fz d) :: fs, gs, B, h => by
    obtain ⟨v, r, e1, e2, e3⟩ := h
    subst e1
    simp [OwnF.names e3]
  | (f, .ol ds) :: fs, gs, B, h => by
    obtain ⟨l, vs, r, B', e1, e2, e3, e4, e5⟩ := h
    subst e1
    simp [OwnF.names e5]
end

/-! ### the state of a frame -/
/-- what callers hide; where the things stand that callers own -/
structure Fx where
  fo : AS
  ro : Nat → Addr
instance : CoeFun Fx (fun _ => Addr → Prop) := ⟨Fx.fo⟩
/-- all that is hidden: what callers hide, what the slots own -/
def Hd (Fo : Fx) (A : Nat → List Addr) : AS := fun b => Fo b ∨ ∃ i, b ∈ A i
structure SR (G : Gx) (Fo : Fx) (H : Hp) (σ : L2.St) (sl : Sls) (A : Nat → List Addr) : Prop where
  len : σ.length = sl.length
  va : ∀ (i : Nat) d, sl[i]? = some (Sl.va d) → ∃ v, σ[i]? = some (some v) ∧ Rep G (hide H (Hd Fo A)) v d
  ow : ∀ (i : Nat) b p, sl[i]? = some (Sl.ow b p) → ∃ a, σ[i]? = some (some (.ref a)) ∧ Own G (hide H (Hd Fo A)) H p a (A i)
  no : ∀ (i : Nat), (∀ b p, sl[i]? ≠ some (Sl.ow b p)) → A i = []
  nd : ∀ i, (A i).Nodup
  dj : ∀ i j x, i ≠ j → x ∈ A i → x ∉ A j
  fd : ∀ i x, x ∈ A i → ¬ Fo x
  fa : ∀ x, Fo x → H x ≠ none
  ro : ∀ (i : Nat) p, sl[i]? = some (Sl.ow false p) → σ[i]? = some (some (.ref (Fo.ro i)))
/-- what may be read as settled -/
noncomputable abbrev vis (H : Hp) (Fo : Fx) (A : Nat → List Addr) : Hp := hide H (Hd Fo A)
def U (Fo : Fx) (B : List Addr) : Fx := ⟨fun x => Fo x ∨ x ∈ B, Fo.ro⟩
theorem fx_eq {a b : Fx} (h : ∀ x, a x ↔ b x) (r : a.ro = b.ro) : a = b := by
  obtain ⟨f, ro⟩ := a
  obtain ⟨g, ro'⟩ := b
  have e : f = g := funext fun x => propext (h x)
  have r' : ro = ro' := r
  subst e; subst r'; rfl
theorem U_nil (Fo : Fx) : U Fo [] = Fo := fx_eq (fun x => by simp [U]) rfl
theorem U_app (Fo : Fx) (B C : List Addr) : U (U Fo B) C = U Fo (B ++ C) := fx_eq (fun x => by simp [U, or_assoc]) rfl
/-- the outcome of an expression: v stands for r; B: the places of a new owned thing -/
def RvR (G : Gx) (Hs H : Hp) (σ : L2.St) (B : List Addr) (v : V) : Rv → Prop
  | .va d => B = [] ∧ Rep G Hs v d
  | .fr p => ∃ a, v = .ref a ∧ Own G Hs H p a B
  | .s i => B = [] ∧ σ[i]? = some (some v)
/-- from one state to a later one -/
structure Post (G : Gx) (Fo : Fx) (A : Nat → List Addr) (H : Hp) (B : List Addr) (A' : Nat → List Addr) (H' : Hp) (σ : L2.St) (sl : Sls) : Prop where
  st : SR G (U Fo B) H' σ sl A'
  nd : B.Nodup
  out : ∀ x ∈ B, ¬ Fo x
  ext : Same (vis H Fo A) (vis H' (U Fo B) A')
  fo : ∀ x, Fo x → H' x = H x
section
variable {G : Gx} {Fo : Fx} {A A1 A2 : Nat → List Addr} {H H1 H2 H' : Hp} {σ : L2.St} {sl sl1 sl2 : Sls} {B B1 B2 : List Addr} {v : V} {r : Rv}
theorem Post.refl (S : SR G Fo H σ sl A) : Post G Fo A H [] A H σ sl := ⟨by rw [U_nil]; exact S, List.nodup_nil, (fun _ h => absurd h List.not_mem_nil), by rw [U_nil]; exact Same.refl _, fun _ _ => rfl⟩
theorem Post.trans (a : Post G Fo A H B1 A1 H1 σ sl1) (b : Post G (U Fo B1) A1 H1 B2 A2 H2 σ sl2) : Post G Fo A H (B1 ++ B2) A2 H2 σ sl2 := by
  refine ⟨by rw [← U_app]; exact b.st, List.nodup_append.mpr ⟨a.nd, b.nd, fun x hx y hy e => ?_⟩, fun x hx z => ?_, by rw [← U_app]; exact a.ext.trans b.ext, fun x hx => (b.fo x (.inl hx)).trans (a.fo x hx)⟩
  · subst e; exact b.out x hy (.inr hx)
  · rcases List.mem_append.mp hx with q | q
    · exact a.out x q z
    · exact b.out x q (.inl z)
/-- what stands for r goes on standing for it -/
theorem RvR.later (b : Post G (U Fo B) A1 H1 B2 A2 H2 σ sl2) (h : RvR G (vis H1 (U Fo B) A1) H1 σ B v r) : RvR G (vis H2 (U (U Fo B) B2) A2) H2 σ B v r := by
  cases r with
  | va d => exact ⟨h.1, h.2.mono b.ext⟩
  | fr p =>
    obtain ⟨a, e, o⟩ := h
    exact ⟨a, e, o.mono b.ext fun x hx => b.fo x (.inr hx)⟩
  | s i => exact h
theorem SR.there (S : SR G Fo H σ sl A) {i : Nat} {x : Addr} (h : x ∈ A i) : ∃ o, H x = some o := by
  by_cases q : ∃ b p, sl[i]? = some (Sl.ow b p)
  · obtain ⟨b, p, e⟩ := q
    obtain ⟨a, _, o⟩ := S.ow i b p e
    exact o.there x h
  · rw [S.no i fun b p e => q ⟨b, p, e⟩] at h; cases h
/-- the heap grows; B: new places that are hidden from now on -/
theorem SR.grow (S : SR G Fo H σ sl A) (k : Same H H') (nd : B.Nodup) (new : ∀ x ∈ B, H x = none ∧ H' x ≠ none) : Post G Fo A H B A H' σ sl := by
  have ev : Same (vis H Fo A) (vis H' (U Fo B) A) := hide_same fun b o n e => ⟨fun z => by
    rcases z with (z | z) | z
    · exact n (.inl z)
    · rw [(new b z).1] at e; cases e
    · exact n (.inr z), k b o e⟩
  have keepA : ∀ i, ∀ b ∈ A i, H' b = H b := fun i b hb => by
    obtain ⟨o, e⟩ := S.there hb
    rw [e]; exact k b o e
  have keepF : ∀ x, Fo x → H' x = H x := fun x hx => by
    cases e : H x with
    | none => exact absurd e (S.fa x hx)
    | some o => exact k x o e
  refine ⟨⟨S.len, fun i d e => ?_, fun i b p e => ?_, S.no, S.nd, S.dj, fun i x hx z => ?_, fun x z => ?_, S.ro⟩, nd, fun x hx z => ?_, ev, keepF⟩
  · obtain ⟨w, q1, q2⟩ := S.va i d e
    exact ⟨w, q1, q2.mono ev⟩
  · obtain ⟨a, q1, q2⟩ := S.ow i b p e
    exact ⟨a, q1, q2.mono ev (keepA i)⟩
  · rcases z with z | z
    · exact S.fd i x hx z
    · obtain ⟨o, e⟩ := S.there hx
      rw [(new x z).1] at e; cases e
  · rcases z with z | z
    · rw [keepF x z]; exact S.fa x z
    · exact (new x z).2
  · exact S.fa x z (new x hx).1
/-- places that were hidden are settled -/
theorem SR.open' (S : SR G (U Fo B) H σ sl A) (hB : ∀ x ∈ B, ¬ Fo x) : SR G Fo H σ sl A ∧ Same (vis H (U Fo B) A) (vis H Fo A) ∧ ∀ x ∈ B, ∀ o, H x = some o → vis H Fo A x = some o := by
  have ev : Same (vis H (U Fo B) A) (vis H Fo A) := hide_mono fun b z => by
    rcases z with z | z
    · exact .inl (.inl z)
    · exact .inr z
  refine ⟨⟨S.len, fun i d e => ?_, fun i b p e => ?_, S.no, S.nd, S.dj, fun i x hx z => S.fd i x hx (.inl z), fun x z => S.fa x (.inl z), S.ro⟩, ev, fun x hx o e => ?_⟩
  · obtain ⟨w, q1, q2⟩ := S.va i d e
    exact ⟨w, q1, q2.mono ev⟩
  · obtain ⟨a, q1, q2⟩ := S.ow i b p e
    exact ⟨a, q1, q2.mono ev fun _ _ => rfl⟩
  · show hide H _ x = _
    rw [hide_no fun z => ?_]
    · exact e
    · rcases z with z | ⟨i, z⟩
      · exact hB x hx z
      · exact S.fd i x z (.inr hx)
/-- slot i's own thing is settled -/
def clrA (A : Nat → List Addr) (i : Nat) : Nat → List Addr := fun j => if j = i then [] else A j
theorem clrA_ne {i j : Nat} (h : j ≠ i) : clrA A i j = A j := if_neg h
theorem clrA_eq {i : Nat} : clrA A i i = [] := if_pos rfl
theorem mem_clrA {i j : Nat} {x : Addr} (h : x ∈ clrA A i j) : x ∈ A j ∧ j ≠ i := by
  by_cases q : j = i
  · subst q; rw [clrA_eq] at h; cases h
  · rw [clrA_ne q] at h; exact ⟨h, q⟩
theorem get_set {sl : Sls} {i j : Nat} {x : Sl} {y : Sl} (h : (sl.set i x)[j]? = some y) : (j = i ∧ x = y) ∨ (j ≠ i ∧ sl[j]? = some y) := by
  by_cases q : i = j
  · subst q
    by_cases l : i < sl.length
    · rw [List.getElem?_set_self l] at h
      exact .inl ⟨rfl, Option.some.inj h⟩
    · rw [List.getElem?_eq_none (by simpa using l)] at h; cases h
  · rw [List.getElem?_set_ne q] at h
    exact .inr ⟨fun z => q z.symm, h⟩
theorem SR.freeze (S : SR G Fo H σ sl A) {i : Nat} {b : Bool} {p : OP} (e : sl[i]? = some (Sl.ow b p)) :
    SR G Fo H σ (sl.set i (.va p.d)) (clrA A i) ∧ Same (vis H Fo A) (vis H Fo (clrA A i)) ∧ ∃ a, σ[i]? = some (some (.ref a)) ∧ Rep G (vis H Fo (clrA A i)) (.ref a) p.d := by
  have ev : Same (vis H Fo A) (vis H Fo (clrA A i)) := hide_mono fun x z => by
    rcases z with z | ⟨j, z⟩
    · exact .inl z
    · exact .inr ⟨j, (mem_clrA z).1⟩
  obtain ⟨a, q1, q2⟩ := S.ow i b p e
  have rp : Rep G (vis H Fo (clrA A i)) (.ref a) p.d := q2.rep ev fun x hx o ho => by
    show hide H _ x = _
    rw [hide_no fun z => ?_]
    · exact ho
    · rcases z with z | ⟨j, z⟩
      · exact S.fd i x hx z
      · exact S.dj j i x (mem_clrA z).2 (mem_clrA z).1 hx
  refine ⟨⟨by rw [List.length_set]; exact S.len, fun j d e' => ?_, fun j b' p' e' => ?_, fun j h => ?_, fun j => ?_, fun j k x n hx hy => ?_, fun j x hx => S.fd j x (mem_clrA hx).1, S.fa, fun j p' e' => ?_⟩, ev, a, q1, rp⟩
  · rcases get_set e' with ⟨z, z'⟩ | ⟨z, z'⟩
    · subst z; cases z'
      exact ⟨_, q1, rp⟩
    · obtain ⟨w, w1, w2⟩ := S.va j d z'
      exact ⟨w, w1, w2.mono ev⟩
  · rcases get_set e' with ⟨z, z'⟩ | ⟨z, z'⟩
    · cases z'
    · obtain ⟨w, w1, w2⟩ := S.ow j b' p' z'
      rw [clrA_ne z]
      exact ⟨w, w1, w2.mono ev fun _ _ => rfl⟩
  · by_cases q : j = i
    · subst q; exact clrA_eq
    · rw [clrA_ne q]
      refine S.no j fun b' p' z => h b' p' ?_
      rw [List.getElem?_set_ne (Ne.symm q)]; exact z
  · by_cases q : j = i
    · subst q; rw [clrA_eq]; exact List.nodup_nil
    · rw [clrA_ne q]; exact S.nd j
  · exact S.dj j k x n (mem_clrA hx).1 (mem_clrA hy).1
  · rcases get_set e' with ⟨z, z'⟩ | ⟨z, z'⟩
    · cases z'
    · exact S.ro j p' z'
/-- a slot's name stands for no settled thing any more, or another one -/
theorem SR.setV (S : SR G Fo H σ sl A) {i : Nat} {v : V} {d : D} (hi : i < sl.length) (h : Rep G (vis H Fo A) v d) : SR G Fo H (σ.set i (some v)) (sl.set i (.va d)) (clrA A i) ∧ Same (vis H Fo A) (vis H Fo (clrA A i)) := by
  have ev : Same (vis H Fo A) (vis H Fo (clrA A i)) := hide_mono fun x z => by
    rcases z with z | ⟨j, z⟩
    · exact .inl z
    · exact .inr ⟨j, (mem_clrA z).1⟩
  refine ⟨⟨by rw [List.length_set, List.length_set]; exact S.len, fun j d' e' => ?_, fun j b' p' e' => ?_, fun j h => ?_, fun j => ?_, fun j k x n hx hy => ?_, fun j x hx => S.fd j x (mem_clrA hx).1, S.fa, fun j p' e' => ?_⟩, ev⟩
  · rcases get_set e' with ⟨z, z'⟩ | ⟨z, z'⟩
    · subst z; cases z'
      exact ⟨v, List.getElem?_set_self (by rw [S.len]; exact hi), h.mono ev⟩
    · obtain ⟨w, w1, w2⟩ := S.va j d' z'
      exact ⟨w, by rw [List.getElem?_set_ne (Ne.symm z)]; exact w1, w2.mono ev⟩
  · rcases get_set e' with ⟨z, z'⟩ | ⟨z, z'⟩
    · cases z'
    · obtain ⟨w, w1, w2⟩ := S.ow j b' p' z'
      rw [clrA_ne z]
      exact ⟨w, by rw [List.getElem?_set_ne (Ne.symm z)]; exact w1, w2.mono ev fun _ _ => rfl⟩
  · by_cases q : j = i
    · subst q; exact clrA_eq
    · rw [clrA_ne q]
      refine S.no j fun b' p' z => h b' p' ?_
      rw [List.getElem?_set_ne (Ne.symm q)]; exact z
  · by_cases q : j = i
    · subst q; rw [clrA_eq]; exact List.nodup_nil
    · rw [clrA_ne q]; exact S.nd j
  · exact S.dj j k x n (mem_clrA hx).1 (mem_clrA hy).1
  · rcases get_set e' with ⟨z, z'⟩ | ⟨z, z'⟩
    · cases z'
    · rw [List.getElem?_set_ne (Ne.symm z)]; exact S.ro j p' z'
def putB (A : Nat → List Addr) (i : Nat) (B : List Addr) : Nat → List Addr := fun j => if j = i then B else A j
theorem putB_ne {i j : Nat} {B : List Addr} (h : j ≠ i) : putB A i B j = A j := if_neg h
theorem putB_eq {i : Nat} {B : List Addr} : putB A i B i = B := if_pos rfl
theorem mem_putB {i j : Nat} {x : Addr} (h : x ∈ putB A i B j) : (j = i ∧ x ∈ B) ∨ (j ≠ i ∧ x ∈ A j) := by
  by_cases q : j = i
  · subst q; rw [putB_eq] at h; exact .inl ⟨rfl, h⟩
  · rw [putB_ne q] at h; exact .inr ⟨q, h⟩
/-- a new owned thing comes to slot i -/
theorem SR.setO (S : SR G (U Fo B) H σ sl A) {i : Nat} {p : OP} {a : Addr} (hi : i < sl.length) (nd : B.Nodup) (out : ∀ x ∈ B, ¬ Fo x) (h : Own G (vis H (U Fo B) A) H p a B) :
    SR G Fo H (σ.set i (some (.ref a))) (sl.set i (.ow true p)) (putB A i B) ∧ Same (vis H (U Fo B) A) (vis H Fo (putB A i B)) := by
  have ev : Same (vis H (U Fo B) A) (vis H Fo (putB A i B)) := hide_mono fun x z => by
    rcases z with z | ⟨j, z⟩
    · exact .inl (.inl z)
    · rcases mem_putB z with ⟨_, z⟩ | ⟨_, z⟩
      · exact .inl (.inr z)
      · exact .inr ⟨j, z⟩
  refine ⟨⟨by rw [List.length_set, List.length_set]; exact S.len, fun j d' e' => ?_, fun j b' p' e' => ?_, fun j h => ?_, fun j => ?_, fun j k x n hx hy => ?_, fun j x hx z => ?_, fun x z => S.fa x (.inl z), fun j p' e' => ?_⟩, ev⟩
  · rcases get_set e' with ⟨z, z'⟩ | ⟨z, z'⟩
    · cases z'
    · obtain ⟨w, w1, w2⟩ := S.va j d' z'
      exact ⟨w, by rw [List.getElem?_set_ne (Ne.symm z)]; exact w1, w2.mono ev⟩
  · rcases get_set e' with ⟨z, z'⟩ | ⟨z, z'⟩
    · subst z; cases z'
      rw [putB_eq]
      exact ⟨a, List.getElem?_set_self (by rw [S.len]; exact hi), h.mono ev fun _ _ => rfl⟩
    · obtain ⟨w, w1, w2⟩ := S.ow j b' p' z'
      rw [putB_ne z]
      exact ⟨w, by rw [List.getElem?_set_ne (Ne.symm z)]; exact w1, w2.mono ev fun _ _ => rfl⟩
  · by_cases q : j = i
    · subst q
      exact absurd (List.getElem?_set_self hi) (h _ _)
    · rw [putB_ne q]
      refine S.no j fun b' p' z => h b' p' ?_
      rw [List.getElem?_set_ne (Ne.symm q)]; exact z
  · by_cases q : j = i
    · subst q; rw [putB_eq]; exact nd
    · rw [putB_ne q]; exact S.nd j
  · rcases mem_putB hx with ⟨z1, z2⟩ | ⟨z1, z2⟩
    · rcases mem_putB hy with ⟨y1, y2⟩ | ⟨y1, y2⟩
      · exact n (z1.trans y1.symm)
      · exact S.fd k x y2 (.inr z2)
    · rcases mem_putB hy with ⟨y1, y2⟩ | ⟨y1, y2⟩
      · exact S.fd j x z2 (.inr y2)
      · exact S.dj j k x n z2 y2
  · rcases mem_putB hx with ⟨z1, z2⟩ | ⟨z1, z2⟩
    · exact out x z2 z
    · exact S.fd j x z2 (.inl z)
  · rcases get_set e' with ⟨z, z'⟩ | ⟨z, z'⟩
    · cases z'
    · rw [List.getElem?_set_ne (Ne.symm z)]; exact S.ro j p' z'
/-- slot i's own thing changes in its places (B: its places behind) -/
theorem SR.change (S : SR G Fo H σ sl A) {i : Nat} {b : Bool} {p p' : OP} {a : Addr} {B : List Addr} (e : sl[i]? = some (Sl.ow b p)) (ea : σ[i]? = some (some (.ref a))) (nd : B.Nodup)
    (hB : ∀ x ∈ B, x ∈ A i ∨ (H x = none)) (k : ∀ x o, x ∉ A i → H x = some o → H' x = some o) (h : Own G (vis H' Fo (putB A i B)) H' p' a B) :
    SR G Fo H' σ (sl.set i (.ow b p')) (putB A i B) ∧ Same (vis H Fo A) (vis H' Fo (putB A i B)) ∧ ∀ x, Fo x → H' x = H x := by
  have ev : Same (vis H Fo A) (vis H' Fo (putB A i B)) := hide_same fun x o n q => ⟨fun z => by
    rcases z with z | ⟨j, z⟩
    · exact n (.inl z)
    · rcases mem_putB z with ⟨_, z⟩ | ⟨_, z⟩
      · rcases hB x z with w | w
        · exact n (.inr ⟨i, w⟩)
        · rw [w] at q; cases q
      · exact n (.inr ⟨j, z⟩), k x o (fun z => n (.inr ⟨i, z⟩)) q⟩
  have keep : ∀ j, j ≠ i → ∀ x ∈ A j, H' x = H x := fun j n x hx => by
    obtain ⟨o, q⟩ := S.there hx
    rw [q]; exact k x o (S.dj j i x n hx) q
  have keepF : ∀ x, Fo x → H' x = H x := fun x hx => by
    cases q : H x with
    | none => exact absurd q (S.fa x hx)
    | some o => exact k x o (fun z => S.fd i x z hx) q
  have hi : i < sl.length := (List.getElem?_eq_some_iff.mp e).1
  refine ⟨⟨by rw [List.length_set]; exact S.len, fun j d' e' => ?_, fun j b'' p'' e' => ?_, fun j hh => ?_, fun j => ?_, fun j l x n hx hy => ?_, fun j x hx z => ?_, fun x z => by rw [keepF x z]; exact S.fa x z, fun j p' e' => ?_⟩, ev, keepF⟩
  · rcases get_set e' with ⟨z, z'⟩ | ⟨z, z'⟩
    · cases z'
    · obtain ⟨w, w1, w2⟩ := S.va j d' z'
      exact ⟨w, w1, w2.mono ev⟩
  · rcases get_set e' with ⟨z, z'⟩ | ⟨z, z'⟩
    · subst z; cases z'
      rw [putB_eq]
      exact ⟨a, ea, h⟩
    · obtain ⟨w, w1, w2⟩ := S.ow j b'' p'' z'
      rw [putB_ne z]
      exact ⟨w, w1, w2.mono ev (keep j z)⟩
  · by_cases q : j = i
    · subst q
      exact absurd (List.getElem?_set_self hi) (hh _ _)
    · rw [putB_ne q]
      refine S.no j fun b' p' z => hh b' p' ?_
      rw [List.getElem?_set_ne (Ne.symm q)]; exact z
  · by_cases q : j = i
    · subst q; rw [putB_eq]; exact nd
    · rw [putB_ne q]; exact S.nd j
  · have out : ∀ m, m ≠ i → x ∈ A m → x ∈ B → False := fun m hm h1 h2 => by
      rcases hB x h2 with w | w
      · exact S.dj m i x hm h1 w
      · obtain ⟨o, q⟩ := S.there h1
        rw [w] at q; cases q
    rcases mem_putB hx with ⟨z1, z2⟩ | ⟨z1, z2⟩
    · rcases mem_putB hy with ⟨y1, y2⟩ | ⟨y1, y2⟩
      · exact n (z1.trans y1.symm)
      · exact out l y1 y2 z2
    · rcases mem_putB hy with ⟨y1, y2⟩ | ⟨y1, y2⟩
      · exact out j z1 z2 y2
      · exact S.dj j l x n z2 y2
  · rcases mem_putB hx with ⟨z1, z2⟩ | ⟨z1, z2⟩
    · rcases hB x z2 with w | w
      · exact S.fd i x w z
      · exact S.fa x z w
    · exact S.fd j x z2 z
  · rcases get_set e' with ⟨z, z'⟩ | ⟨z, z'⟩
    · subst z; cases z'
      exact S.ro j p e
    · exact S.ro j p' z'
/-- as it may be read now: its parts are settled -/
def RepV (G : Gx) (Hs H : Hp) (v : V) : D → Prop
  | .lst ds => ∃ a vs, v = .ref a ∧ H a = some (.lst vs) ∧ Reps G Hs vs ds
  | .tup ds => Rep G Hs v (.tup ds)
  | d => Rep G H v d
theorem RepV.rep {Hs : Hp} (e : Same Hs H) {d : D} (h : RepV G Hs H v d) : Rep G H v d := by
  cases d with
  | lst ds =>
    obtain ⟨a, vs, e1, e2, e3⟩ := h
    exact ⟨a, vs, e1, e2, e3.mono e⟩
  | tup ds => exact Rep.mono e h
  | _ => exact h
theorem Rep.toV {Hs : Hp} (e : Same Hs H) {d : D} (h : Rep G Hs v d) : RepV G Hs H v d := by
  cases d with
  | lst ds =>
    obtain ⟨a, vs, e1, e2, e3⟩ := h
    exact ⟨a, vs, e1, e _ _ e2, e3⟩
  | tup ds => exact h
  | _ => exact Rep.mono e h
theorem Own.toV {Hs : Hp} (e : Same Hs H) {p : OP} {a : Addr} (h : Own G Hs H p a B) : RepV G Hs H (.ref a) p.d := by
  cases p with
  | lst ds =>
    obtain ⟨_, vs, e2, e3⟩ := h
    exact ⟨a, vs, rfl, e2, e3⟩
  | obj c fs => exact Own.rep (Hs' := H) e (fun _ _ _ ho => ho) h
/-- looked at -/
theorem RvR.view (S : SR G Fo H σ sl A) (h : RvR G (vis H Fo A) H σ B v r) {d : D} (e : Pf.view sl r = some d) : RepV G (vis H Fo A) H v d := by
  cases r with
  | va d' =>
    have e' : d' = d := Option.some.inj e
    subst e'
    exact h.2.toV hide_sub
  | fr p =>
    have e' : p.d = d := Option.some.inj e
    subst e'
    obtain ⟨a, e1, o⟩ := h
    subst e1
    exact o.toV hide_sub
  | s i =>
    simp only [Pf.view] at e
    split at e
    · rename_i d' q
      cases e
      obtain ⟨w, w1, w2⟩ := S.va i _ q
      rw [h.2] at w1
      cases w1
      exact w2.toV hide_sub
    · rename_i b p q
      cases e
      obtain ⟨w, w1, w2⟩ := S.ow i _ _ q
      rw [h.2] at w1
      cases w1
      exact w2.toV hide_sub
    · cases e
/-- settled -/
theorem RvR.settle (S : SR G (U Fo B) H σ sl A) (out : ∀ x ∈ B, ¬ Fo x) (h : RvR G (vis H (U Fo B) A) H σ B v r) {d : D} {sl' : Sls} (e : Pf.settle sl r = some (d, sl')) :
    ∃ A', SR G Fo H σ sl' A' ∧ Same (vis H (U Fo B) A) (vis H Fo A') ∧ Rep G (vis H Fo A') v d := by
  cases r with
  | va d' =>
    cases e
    obtain ⟨e1, e2⟩ := h
    obtain ⟨S', ev, _⟩ := S.open' out
    exact ⟨A, S', ev, e2.mono ev⟩
  | fr p =>
    cases e
    obtain ⟨a, e1, o⟩ := h
    subst e1
    obtain ⟨S', ev, op⟩ := S.open' out
    exact ⟨A, S', ev, o.rep ev op⟩
  | s i =>
    obtain ⟨S', ev, _⟩ := S.open' out
    simp only [Pf.settle] at e
    split at e
    · rename_i d' q
      cases e
      obtain ⟨w, w1, w2⟩ := S'.va i _ q
      rw [h.2] at w1
      cases w1
      exact ⟨A, S', ev, w2⟩
    · rename_i p q
      cases e
      obtain ⟨S2, ev2, a, w1, w2⟩ := S'.freeze q
      rw [h.2] at w1
      cases w1
      exact ⟨_, S2, ev.trans ev2, w2⟩
    · cases e
end
end Pf

/-! Pf3: operations on data, as the layer's readings want them -/
namespace Pf
open PySem L2

section
variable {G : Gx} {Fo : Fx} {A : Nat → List Addr} {H : Hp} {σ : L2.St} {sl : Sls}
/-- what a settled value needs -/
theorem out_va (S : SR G Fo H σ sl A) {v : V} {d : D} (h : Rep G (vis H Fo A) v d) : Post G Fo A H [] A H σ sl ∧ RvR G (vis H (U Fo []) A) H σ [] v (.va d) := ⟨Post.refl S, rfl, by rw [U_nil]; exact h⟩
theorem same_upd {H : Hp} {p : Addr} {o : HO} (h : H p = none) : Same H (upd H p o) := fun b u e => by
  rw [upd_ne (ne_of_none e h)]
  exact e
theorem out_lst (S : SR G Fo H σ sl A) {p : Addr} {vs : List V} {ds : List D} (hp : H p = none) (h : Reps G (vis H Fo A) vs ds) :
    Post G Fo A H [p] A (upd H p (.lst vs)) σ sl ∧ RvR G (vis (upd H p (.lst vs)) (U Fo [p]) A) (upd H p (.lst vs)) σ [p] (.ref p) (.fr (.lst ds)) := by
  have P := S.grow (H' := upd H p (.lst vs)) (B := [p]) (same_upd hp) (by simp) fun x hx => by
    have e : x = p := by simpa using hx
    subst e
    exact ⟨hp, by rw [upd_same]; simp⟩
  exact ⟨P, p, rfl, rfl, vs, upd_same, h.mono P.ext⟩
theorem out_tup (S : SR G Fo H σ sl A) {p : Addr} {vs : List V} {ds : List D} (hp : H p = none) (h : Reps G (vis H Fo A) vs ds) :
    Post G Fo A H [] A (upd H p (.tup vs)) σ sl ∧ RvR G (vis (upd H p (.tup vs)) (U Fo []) A) (upd H p (.tup vs)) σ [] (.ref p) (.va (.tup ds)) := by
  have P := S.grow (H' := upd H p (.tup vs)) (B := []) (same_upd hp) List.nodup_nil fun x hx => by cases hx
  refine ⟨P, rfl, p, vs, rfl, ?_, h.mono P.ext⟩
  show hide _ _ p = _
  rw [hide_no fun z => ?_]
  · exact upd_same
  · rcases z with (z | z) | ⟨i, z⟩
    · exact S.fa p z hp
    · cases z
    · obtain ⟨o, e⟩ := S.there z
      rw [hp] at e; cases e
/-- what is wanted behind a step that leaves the slots -/
abbrev Kt (G : Gx) (Fo : Fx) (A : Nat → List Addr) (H : Hp) (σ : L2.St) (sl : Sls) (Q : VK) (r : Rv) : Prop := ∀ H' B v, Post G Fo A H B A H' σ sl → RvR G (vis H' (U Fo B) A) H' σ B v r → Q v H'

/-! ### two-place operations -/
def toOp : BOp → Operator
  | .add => .Add | .sub => .Sub | .mul => .Mult | .fdiv => .FloorDiv | .mod => .Mod | .pow => .Pow
def rBin (K : PySem.W.Frag) : BOp → R2
  | .add => fun x y H Q => rI0 (fun i j => .int (i + j)) x y H Q ∨ (rCat x y H Q ∨ rCatA K x y H Q)
  | .sub => rI0 fun i j => .int (i - j)
  | .mul => fun x y H Q => rI CMul (fun i j => .int (i * j)) x y H Q ∨ rRep x y H Q
  | .fdiv => rI CDiv fun i j => .int (i / j)
  | .mod => rI (fun _ j => 0 < j) fun i j => .int (i % j)
  | .pow => rI CPow fun i j => .int (i ^ j.toNat)
theorem opr_bin (X : Cx) : ∀ op : BOp, OpR X (binaryOp (toOp op)) (rBin X.K op)
  | .add => op_add.or (op_cat.or op_catA)
  | .sub => op_sub
  | .mul => op_mul.or op_rep
  | .fdiv => op_fdiv
  | .mod => op_mod
  | .pow => op_pow
theorem bin_go (S : SR G Fo H σ sl A) {op : BOp} {d1 d2 : D} {x y : V} (h1 : RepV G (vis H Fo A) H x d1) (h2 : RepV G (vis H Fo A) H y d2) {Q : VK} (h : (binD op d1 d2).sat (Kt G Fo A H σ sl Q)) : rBin G.K op x y H Q := by
  have kva : ∀ {v : V} {d : D}, Kt G Fo A H σ sl Q (.va d) → Rep G (vis H Fo A) v d → Q v H := fun {v d} k r => k _ _ _ (out_va S r).1 (out_va S r).2
  have kint : ∀ {n : Int}, Kt G Fo A H σ sl Q (.va (.int n)) → Q (.int n) H := fun {n} k => kva k rfl
  have ite_sat : ∀ {c : Prop} [Decidable c] {r : Rv} {P : Rv → Prop}, (if c then Rs.ok r else Rs.stuck).sat P → c ∧ P r := fun {c _ r P} z => by
    by_cases q : c
    · rw [if_pos q] at z; exact ⟨q, z⟩
    · rw [if_neg q] at z; exact z.elim
  cases op with
  | add =>
    cases d1 <;> cases d2 <;> first | exact (show False from h).elim | skip
    case int.int i j => exact .inl ⟨_, _, h1, h2, kint h⟩
    case lst.lst xs ys =>
      obtain ⟨hz, h⟩ := ite_sat h
      obtain ⟨a, vs, rfl, e2, e3⟩ := h1
      obtain ⟨b, us, rfl, f2, f3⟩ := h2
      refine .inr (.inl ⟨a, b, vs, us, rfl, rfl, e2, f2, by rw [e3.len, f3.len]; exact hz, fun p hp => ?_⟩)
      obtain ⟨P, R⟩ := out_lst S hp (e3.app f3)
      exact h _ _ _ P R
    case tup.tup xs ys =>
      obtain ⟨hz, h⟩ := ite_sat h
      have k1 : Rep G (vis H Fo A) x (.tup xs) := h1
      have k2 : Rep G (vis H Fo A) y (.tup ys) := h2
      obtain ⟨a, vs, rfl, e2, e3⟩ := id k1
      obtain ⟨b, us, rfl, f2, f3⟩ := id k2
      refine .inr (.inr ⟨a, b, vs, us, rfl, rfl, SqT.of (hide_sub _ _ e2), SqT.of (hide_sub _ _ f2), by rw [e3.len, f3.len]; exact hz, fun q => ?_, fun q q' => ?_, fun q q' p hp => ?_⟩)
      · have e4 : xs = [] := by
          have := e3.len
          rw [q] at this
          exact List.eq_nil_of_length_eq_zero this.symm
        subst e4
        exact kva h k2
      · have e4 : ys = [] := by
          have := f3.len
          rw [q'] at this
          exact List.eq_nil_of_length_eq_zero this.symm
        subst e4
        rw [List.append_nil] at h
        exact kva h k1
      · obtain ⟨P, R⟩ := out_tup S hp (e3.app f3)
        exact h _ _ _ P R
  | sub =>
    cases d1 <;> cases d2 <;> first | exact (show False from h).elim | skip
    exact ⟨_, _, h1, h2, kint h⟩
  | mul =>
    cases d1 <;> cases d2 <;> first | exact (show False from h).elim | skip
    case int.int i j =>
      obtain ⟨hz, h⟩ := ite_sat h
      exact .inl ⟨_, _, h1, h2, hz, kint h⟩
    case lst.int xs k =>
      obtain ⟨hz, h⟩ := ite_sat h
      obtain ⟨a, vs, rfl, e2, e3⟩ := h1
      refine .inr ⟨a, k, vs, rfl, h2, e2, hz.1, hz.2.1, by rw [e3.len]; exact hz.2.2, fun p hp => ?_⟩
      obtain ⟨P, R⟩ := out_lst S hp (e3.rep k.toNat)
      exact h _ _ _ P R
  | fdiv =>
    cases d1 <;> cases d2 <;> first | exact (show False from h).elim | skip
    obtain ⟨hz, h⟩ := ite_sat h
    exact ⟨_, _, h1, h2, hz, kint h⟩
  | mod =>
    cases d1 <;> cases d2 <;> first | exact (show False from h).elim | skip
    obtain ⟨hz, h⟩ := ite_sat h
    exact ⟨_, _, h1, h2, hz, kint h⟩
  | pow =>
    cases d1 <;> cases d2 <;> first | exact (show False from h).elim | skip
    obtain ⟨hz, h⟩ := ite_sat h
    exact ⟨_, _, h1, h2, hz, kint h⟩

/-! ### comparisons -/
def toCmp : COp → CmpOp
  | .eq => .Eq | .ne => .NotEq | .lt => .Lt | .le => .LtE | .gt => .Gt | .ge => .GtE | .isin => .In | .notin => .NotIn
def rLtD (K : PySem.W.Frag) : R2 := fun x y H Q => ∃ d e, Dp K H x d ∧ Dp K H y e ∧ PySem.W.alike d e = true ∧ d ≠ .none ∧ d.depth ≤ 60 ∧ Q (.bl (PySem.W.dataLt d e)) H
theorem op_ltD {X : Cx} (hu : X.A.units + 65 < cLine) : OpR X (compareOp .Lt) (rLtD X.K) := by
  intro pins s σ H x y v u Q I rx ry h
  obtain ⟨d, e, hd, he, ha, hn, hz, q⟩ := h
  obtain ⟨as, r1⟩ := Dp.reads I d x v hd rx
  obtain ⟨bs, r2⟩ := Dp.reads I e y u he ry
  have := PySem.W.rcLt_alike d e X.A s v u as bs r1 r2 ha hn (by have := Nat.min_le_left d.depth e.depth; omega)
  exact this _ _ _ _ ⟨.bl _, H, I, rfl, q⟩
def rCmp (K : PySem.W.Frag) : COp → R2
  | .eq => rEqP K
  | .ne => rNeP K
  | .lt => fun x y H Q => rI0 (fun i j => .bl (decide (i < j))) x y H Q ∨ rLtD K x y H Q
  | .le => rI0 fun i j => .bl (decide (i ≤ j))
  | .gt => rI0 fun i j => .bl (decide (j < i))
  | .ge => rI0 fun i j => .bl (decide (j ≤ i))
  | .isin => rInP K false
  | .notin => rInP K true
theorem opr_cmp {X : Cx} (hu : X.A.units + 65 < cLine) : ∀ op : COp, OpR X (compareOp (toCmp op)) (rCmp X.K op)
  | .eq => op_eqP (by omega)
  | .ne => op_neP (by omega)
  | .lt => op_lt.or (op_ltD hu)
  | .le => op_le
  | .gt => op_gt
  | .ge => op_ge
  | .isin => op_inP (by omega)
  | .notin => op_notInP (by omega)
mutual
theorem plain_of : ∀ d : D, d.pl = true → d.py.plain = true
  | .non, _ => by simp only [D.py]; rfl
  | .bl _, _ => by simp only [D.py]; rfl
  | .int _, _ => by simp only [D.py]; rfl
  | .str _, _ => by simp only [D.py]; rfl
  | .lst xs, h => by simp only [D.py, PyData.plain]; exact plains_of xs (by simpa [D.pl] using h)
  | .tup xs, h => by simp only [D.py, PyData.plain]; exact plains_of xs (by simpa [D.pl] using h)
  | .obj _ _, h => by simp [D.pl] at h
  | .scr _, h => by simp [D.pl] at h
theorem plains_of : ∀ ds : List D, D.pls ds = true → PyData.plainAll (D.pys ds) = true
  | [], _ => by simp only [D.pys]; rfl
  | d :: ds, h => by
    have h' : d.pl = true ∧ D.pls ds = true := by simpa [D.pls] using h
    simp only [D.pys, PyData.plainAll, plain_of d h'.1, plains_of ds h'.2, Bool.and_self]
end
theorem pyT (xs : List D) : (D.tup xs).py = .tuple (D.pys xs) := by simp only [D.py]
theorem pyL (xs : List D) : (D.lst xs).py = .list (D.pys xs) := by simp only [D.py]
theorem RepV.dp {v : V} {d : D} (h : RepV G (vis H Fo A) H v d) (p : d.pl = true) : Dp G.K H v d.py := (h.rep hide_sub).dp p
theorem if_sat {α : Type} {c : Prop} [Decidable c] {r : α} {P : α → Prop} (z : (if c then Rs.ok r else Rs.stuck).sat P) : c ∧ P r := by
  by_cases q : c
  · rw [if_pos q] at z; exact ⟨q, z⟩
  · rw [if_neg q] at z; exact z.elim
theorem if_satR {α : Type} {c : Prop} [Decidable c] {r : Rs α} {P : α → Prop} (z : (if c then r else Rs.stuck).sat P) : c ∧ r.sat P := by
  by_cases q : c
  · rw [if_pos q] at z; exact ⟨q, z⟩
  · rw [if_neg q] at z; exact z.elim
theorem in_go {neg : Bool} {d1 d2 : D} {x y : V} (h1 : RepV G (vis H Fo A) H x d1) (h2 : RepV G (vis H Fo A) H y d2) {P : Bool → Prop} (h : (inD neg d1 d2).sat P) {Q : VK} (k : ∀ b, P b → Q (.bl b) H) : rInP G.K neg x y H Q := by
  cases d2 <;> first | exact (show False from h).elim | skip
  case lst xs =>
    obtain ⟨z, h⟩ := if_sat h
    have e := h2.dp (d := .lst xs) (by simpa [D.pl] using z.2.1)
    rw [pyL] at e
    exact ⟨_, _, h1.dp z.1, .inl e, plain_of _ z.1, plains_of _ z.2.1, z.2.2, k _ h⟩
  case tup xs =>
    obtain ⟨z, h⟩ := if_sat h
    have e := h2.dp (d := .tup xs) (by simpa [D.pl] using z.2.1)
    rw [pyT] at e
    exact ⟨_, _, h1.dp z.1, .inr e, plain_of _ z.1, plains_of _ z.2.1, z.2.2, k _ h⟩
theorem cmp_go {op : COp} {d1 d2 : D} {x y : V} (h1 : RepV G (vis H Fo A) H x d1) (h2 : RepV G (vis H Fo A) H y d2) {P : Bool → Prop} (h : (cmpD op d1 d2).sat P) {Q : VK} (k : ∀ b, P b → Q (.bl b) H) : rCmp G.K op x y H Q := by
  cases op with
  | eq =>
    obtain ⟨z, h⟩ := if_sat (show (if _ then _ else _ : Rs Bool).sat P from h)
    exact ⟨_, _, h1.dp z.1, h2.dp z.2.1, plain_of _ z.1, plain_of _ z.2.1, z.2.2, k _ h⟩
  | ne =>
    have h : (eqD d1 d2).sat fun b => P (!b) := Rs.sat_bind.mp h
    obtain ⟨z, h⟩ := if_sat (show (if _ then _ else _ : Rs Bool).sat _ from h)
    exact ⟨_, _, h1.dp z.1, h2.dp z.2.1, plain_of _ z.1, plain_of _ z.2.1, z.2.2, k _ h⟩
  | lt =>
    cases d1 <;> cases d2 <;> first | exact (show False from h).elim | skip
    case int.int i j => exact .inl ⟨_, _, h1, h2, k _ h⟩
    case tup.tup xs ys =>
      obtain ⟨z, h⟩ := if_sat (show (if _ then _ else _ : Rs Bool).sat P from h)
      have e1 := h1.dp (d := .tup xs) (by simpa [D.pl] using z.1)
      have e2 := h2.dp (d := .tup ys) (by simpa [D.pl] using z.2.1)
      rw [pyT] at e1 e2
      exact .inr ⟨_, _, e1, e2, z.2.2.1, (fun q => by cases q), Nat.le_trans z.2.2.2 (by decide), k _ h⟩
  | le =>
    cases d1 <;> cases d2 <;> first | exact (show False from h).elim | skip
    exact ⟨_, _, h1, h2, k _ h⟩
  | gt =>
    cases d1 <;> cases d2 <;> first | exact (show False from h).elim | skip
    exact ⟨_, _, h1, h2, k _ h⟩
  | ge =>
    cases d1 <;> cases d2 <;> first | exact (show False from h).elim | skip
    exact ⟨_, _, h1, h2, k _ h⟩
  | isin => exact in_go h1 h2 h k
  | notin => exact in_go h1 h2 h k

/-! ### items, slices -/
def rIxA (K : PySem.W.Frag) : R2 := fun x y H Q => rIxL K x y H Q ∨ rIxT K x y H Q
theorem ixr {X : Cx} : IxR X (rIxA X.K) := ix_list.or ix_tup
theorem Reps.atI {Hs : Hp} {ds : List D} {vs : List V} {i : Int} {d : D} (h : Reps G Hs vs ds) (e : L2.atI ds i = some d) : ∃ v, L2.atI vs i = some v ∧ Rep G Hs v d := by
  unfold L2.atI at e ⊢
  rw [h.len]
  cases q : ixN ds.length i with
  | none => rw [q] at e; cases e
  | some j =>
    rw [q] at e
    exact h.get e
theorem ix_go (S : SR G Fo H σ sl A) {d1 d2 : D} {x y : V} (h1 : RepV G (vis H Fo A) H x d1) (h2 : RepV G (vis H Fo A) H y d2) {Q : VK} (h : (ixD d1 d2).sat fun d => Kt G Fo A H σ sl Q (.va d)) : rIxA G.K x y H Q := by
  have kva : ∀ {v : V} {d : D}, Kt G Fo A H σ sl Q (.va d) → Rep G (vis H Fo A) v d → Q v H := fun {v d} k r => k _ _ _ (out_va S r).1 (out_va S r).2
  cases d1 <;> cases d2 <;> first | exact (show False from h).elim | skip
  case lst.int xs i =>
    obtain ⟨d, e, h⟩ := Rs.of_sat h
    obtain ⟨a, vs, rfl, e2, e3⟩ := h1
    obtain ⟨v, q1, q2⟩ := e3.atI e
    exact .inl ⟨a, vs, i, v, rfl, h2, SqL.of e2, q1, kva h q2⟩
  case tup.int xs i =>
    obtain ⟨d, e, h⟩ := Rs.of_sat h
    have k1 : Rep G (vis H Fo A) x (.tup xs) := h1
    obtain ⟨a, vs, rfl, e2, e3⟩ := k1
    obtain ⟨v, q1, q2⟩ := e3.atI e
    exact .inr ⟨a, vs, i, v, rfl, h2, SqT.of (hide_sub _ _ e2), q1, kva h q2⟩
def rSlD (K : PySem.W.Frag) : V → Option Int → Option Int → Hp → VK → Prop := fun x lo hi H Q => rSlL K x lo hi H Q ∨ rSlA K x lo hi H Q
theorem slr {X : Cx} : SlR X (rSlD X.K) := sl_list.or sl_tupA
theorem sl_go (S : SR G Fo H σ sl A) {d1 : D} {x : V} {lo hi : Option Int} (h1 : RepV G (vis H Fo A) H x d1) {Q : VK} (h : (slD d1 lo hi).sat (Kt G Fo A H σ sl Q)) : rSlD G.K x lo hi H Q := by
  have kva : ∀ {v : V} {d : D}, Kt G Fo A H σ sl Q (.va d) → Rep G (vis H Fo A) v d → Q v H := fun {v d} k r => k _ _ _ (out_va S r).1 (out_va S r).2
  cases d1 <;> first | exact (show False from h).elim | skip
  case lst xs =>
    obtain ⟨a, vs, rfl, e2, e3⟩ := h1
    refine .inl ⟨a, vs, rfl, SqL.of e2, fun p hp => ?_⟩
    obtain ⟨P, R⟩ := out_lst S hp (e3.cut lo hi)
    exact h _ _ _ P R
  case tup xs =>
    have k1 : Rep G (vis H Fo A) x (.tup xs) := h1
    obtain ⟨a, vs, rfl, e2, e3⟩ := id k1
    refine .inr ⟨a, vs, rfl, SqT.of (hide_sub _ _ e2), fun z => ?_, fun z p hp => ?_⟩
    · have e : cutA xs lo hi = xs := by
        unfold cutA
        rw [← e3.len, z.1, z.2, Nat.sub_zero, List.drop_zero, e3.len, List.take_length]
      have h' : Kt G Fo A H σ sl Q (.va (.tup (cutA xs lo hi))) := h
      rw [e] at h'
      exact kva h' k1
    · obtain ⟨P, R⟩ := out_tup S hp (e3.cut lo hi)
      exact h _ _ _ P R
end
end Pf

/-! Pf4: built-in functions, methods of lists -/
namespace Pf
open PySem L2
def RepVs (G : Gx) (Hs H : Hp) : List V → List D → Prop
  | vs, [] => vs = []
  | vs, d :: ds => ∃ v r, vs = v :: r ∧ RepV G Hs H v d ∧ RepVs G Hs H r ds
def Bi.fn : Bi → Value
  | .len => .builtin "len" | .abs => .builtin "abs" | .int => .type "int" | .list => .type "list" | .tuple => .type "tuple" | .sum => .builtin "sum"
  | .max1 => .builtin "max" | .max2 => .builtin "max" | .min2 => .builtin "min" | .all => .builtin "all" | .sorted => .builtin "sorted"
  | .isI => .builtin "isinstance" | .isB => .builtin "isinstance" | .isS => .builtin "isinstance" | .isT => .builtin "isinstance" | .isL => .builtin "isinstance"
  | _ => .none
def Bi.nm : Bi → Str
  | .len => "len" | .abs => "abs" | .int => "int" | .list => "list" | .tuple => "tuple" | .sum => "sum"
  | .max1 => "max" | .max2 => "max" | .min2 => "min" | .all => "all" | .sorted => "sorted"
  | .isI => "isinstance" | .isB => "isinstance" | .isS => "isinstance" | .isT => "isinstance" | .isL => "isinstance"
  | _ => ""
def Bi.ty : Bi → Option String
  | .isI => some "int" | .isB => some "bool" | .isS => some "str" | .isT => some "tuple" | .isL => some "list"
  | _ => none
def Bi.plain : Bi → Bool
  | .len => true | .abs => true | .int => true | .list => true | .tuple => true | .sum => true | .max1 => true | .max2 => true | .min2 => true | .all => true | .sorted => true
  | _ => false
def rBi (K : PySem.W.Frag) : Bi → List V → Hp → VK → Prop
  | .len => fun xs H Q => ∃ p ys, xs = [.ref p] ∧ (SqL K H p ys ∨ SqT K H p ys) ∧ Q (.int ys.length) H
  | .abs => fun xs H Q => ∃ i, xs = [.int i] ∧ Q (.int (if i < 0 then -i else i)) H
  | .int => fun xs H Q => (∃ i, xs = [.int i] ∧ Q (.int i) H) ∨ ∃ k, xs = [.bl k] ∧ Q (.int (if k then 1 else 0)) H
  | .list => fun xs H Q => ∃ p ys, xs = [.ref p] ∧ (SqL K H p ys ∨ SqT K H p ys) ∧ ∀ l, H l = none → Q (.ref l) (upd H l (.lst ys))
  | .tuple => fun xs H Q => ∃ p ys, xs = [.ref p] ∧ ((SqL K H p ys ∧ ∀ l, H l = none → Q (.ref l) (upd H l (.tup ys))) ∨ (SqT K H p ys ∧ Q (.ref p) H))
  | .sum => rSum K
  | .max1 => rMax K
  | .max2 => fun xs H Q => ∃ i j, xs = [.int i, .int j] ∧ Q (.int (if j > i then j else i)) H
  | .min2 => fun xs H Q => ∃ i j, xs = [.int i, .int j] ∧ Q (.int (if j < i then j else i)) H
  | .all => rAll K
  | .sorted => rSortedI K
  | .isI => rIsi K | .isB => rIsi K | .isS => rIsi K | .isT => rIsi K | .isL => rIsi K
  | _ => fun _ _ _ => False
theorem crBi {X : Cx} (hc : X.calm = true) : ∀ b : Bi, CallR X b.fn (rBi X.K b)
  | .len => call_len_seq
  | .abs => call_abs
  | .int => call_int1
  | .list => call_list_of
  | .tuple => call_tuple_of
  | .sum => cr_sum hc
  | .max1 => cr_max hc
  | .max2 => call_max2 hc
  | .min2 => call_min2 hc
  | .all => cr_all hc
  | .sorted => cr_sortedI
  | .isI => call_isi
  | .isB => call_isi
  | .isS => call_isi
  | .isT => call_isi
  | .isL => call_isi
  | .sortedSet => fun _ _ _ _ _ _ _ _ _ h => h.elim
  | .lenSet => fun _ _ _ _ _ _ _ _ _ h => h.elim
  | .listRange => fun _ _ _ _ _ _ _ _ _ h => h.elim
  | .tupRange => fun _ _ _ _ _ _ _ _ _ h => h.elim
  | .listRev => fun _ _ _ _ _ _ _ _ _ h => h.elim
theorem maxI_eq : ∀ (ns : List Int) (m : Int), m ∈ ns → (∀ y ∈ ns, y ≤ m) → maxI ns = m
  | [], _, h, _ => by cases h
  | [x], m, h, k => by
    have : m = x := by simpa using h
    simp [maxI, this]
  | x :: y :: r, m, h, k => by
    have key : ∀ l : List Int, l ≠ [] → maxI l ∈ l ∧ ∀ z ∈ l, z ≤ maxI l := by
      intro l
      induction l with
      | nil => intro q; exact absurd rfl q
      | cons a l ih =>
        intro _
        cases l with
        | nil => simp [maxI]
        | cons b l =>
          obtain ⟨i1, i2⟩ := ih (by simp)
          have e : maxI (a :: b :: l) = if maxI (b :: l) > a then maxI (b :: l) else a := rfl
          rw [e]
          split
          · refine ⟨List.mem_cons_of_mem _ i1, fun z hz => ?_⟩
            rcases List.mem_cons.mp hz with q | q
            · subst q; omega
            · exact i2 z q
          · refine ⟨List.mem_cons_self, fun z hz => ?_⟩
            rcases List.mem_cons.mp hz with q | q
            · subst q; omega
            · have := i2 z q; omega
    obtain ⟨k1, k2⟩ := key (x :: y :: r) (by simp)
    have a := k _ k1
    have b := k2 _ h
    omega
theorem sortI_eq {ns ns' : List Int} (h : ns'.Perm ns) (k : ns'.Pairwise (· ≤ ·)) : ns' = sortI ns := by
  have p : (sortI ns).Perm ns := List.mergeSort_perm _ _
  have s : (sortI ns).Pairwise (fun a b => a ≤ b) := by
    have := List.pairwise_mergeSort (le := fun a b : Int => decide (a ≤ b)) (fun a b c h1 h2 => by simp at *; omega) (fun a b => by simp; omega) ns
    simpa [sortI] using this
  exact List.Perm.eq_of_pairwise (fun a b _ _ h1 h2 => by omega) k s (h.trans p.symm)
section
variable {G : Gx} {Fo : Fx} {A : Nat → List Addr} {H : Hp} {σ : L2.St} {sl : Sls}
theorem rv1 {Hs : Hp} {vs : List V} {d : D} (h : RepVs G Hs H vs [d]) : ∃ v, vs = [v] ∧ RepV G Hs H v d := by
  obtain ⟨v, r, e, h1, h2⟩ := h
  rw [show r = [] from h2] at e
  exact ⟨v, e, h1⟩
theorem rv2 {Hs : Hp} {vs : List V} {d e : D} (h : RepVs G Hs H vs [d, e]) : ∃ v w, vs = [v, w] ∧ RepV G Hs H v d ∧ RepV G Hs H w e := by
  obtain ⟨v, r, e1, h1, h2⟩ := h
  obtain ⟨w, e2, h3⟩ := rv1 h2
  subst e2
  exact ⟨v, w, e1, h1, h3⟩
theorem RepV.seq {x : V} {ds : List D} (h : RepV G (vis H Fo A) H x (.lst ds)) : ∃ p ys, x = .ref p ∧ H p = some (.lst ys) ∧ Reps G (vis H Fo A) ys ds := h
theorem RepV.tupq {x : V} {ds : List D} (h : RepV G (vis H Fo A) H x (.tup ds)) : ∃ p ys, x = .ref p ∧ H p = some (.tup ys) ∧ Reps G (vis H Fo A) ys ds := by
  obtain ⟨p, ys, e1, e2, e3⟩ := (show Rep G (vis H Fo A) x (.tup ds) from h)
  exact ⟨p, ys, e1, hide_sub _ _ e2, e3⟩
def tyN : D → Option String
  | .non => some "NoneType" | .bl _ => some "bool" | .int _ => some "int" | .str _ => some "str" | .lst _ => some "list" | .tup _ => some "tuple"
  | _ => none
theorem ty_of {d : D} {x : V} (h : RepV G (vis H Fo A) H x d) {t : String} (e : tyN d = some t) : TyX G.K H x (.type t) := by
  cases d <;> cases e
  case non => have q : x = _ := h; subst q; exact .base .non
  case bl b => have q : x = _ := h; subst q; exact .base (.bl b)
  case int b => have q : x = _ := h; subst q; exact .base (.int b)
  case str b => have q : x = _ := h; subst q; exact .base (.str b)
  case lst xs =>
    obtain ⟨p, ys, e1, e2, _⟩ := RepV.seq h
    subst e1
    exact .base (.lst e2)
  case tup xs =>
    obtain ⟨p, ys, e1, e2, _⟩ := RepV.tupq h
    subst e1
    exact .base (.tup e2)
/-- isinstance(x, T) -/
theorem isi_go {b : Bi} {T : String} (hb : b.ty = some T) {d : D} {x : V} (h1 : RepV G (vis H Fo A) H x d) (S : SR G Fo H σ sl A) {Q : VK} (h : (biD b [d]).sat (Kt G Fo A H σ sl Q)) : rIsi G.K [x, .ty T] H Q := by
  have kva : ∀ {v : V} {d : D}, Kt G Fo A H σ sl Q (.va d) → Rep G (vis H Fo A) v d → Q v H := fun {v d} k r => k _ _ _ (out_va S r).1 (out_va S r).2
  have mk : ∀ {t : String} {r : Bool}, TyX G.K H x (.type t) → kitB t T = some r → Kt G Fo A H σ sl Q (.va (.bl r)) → rIsi G.K [x, .ty T] H Q := fun {t r} e kb k =>
    ⟨x, .ty T, _, _, r, rfl, .ty T, e, kit_ty kb, kva k rfl⟩
  cases b <;> first | (cases hb; done) | skip
  all_goals
    cases hb
    cases d <;> first
      | exact (show False from h).elim
      | exact mk (ty_of h1 rfl) (by decide +kernel) h
theorem bi_go (S : SR G Fo H σ sl A) {b : Bi} (hb : b.plain = true) {ds : List D} {vs : List V} (hv : RepVs G (vis H Fo A) H vs ds) {Q : VK} (h : (biD b ds).sat (Kt G Fo A H σ sl Q)) : rBi G.K b vs H Q := by
  have kva : ∀ {v : V} {d : D}, Kt G Fo A H σ sl Q (.va d) → Rep G (vis H Fo A) v d → Q v H := fun {v d} k r => k _ _ _ (out_va S r).1 (out_va S r).2
  have klst : ∀ {ys : List V} {xs : List D}, Kt G Fo A H σ sl Q (.fr (.lst xs)) → Reps G (vis H Fo A) ys xs → ∀ l, H l = none → Q (.ref l) (upd H l (.lst ys)) := fun {ys xs} k r l hl => by
    obtain ⟨P, R⟩ := out_lst S hl r
    exact k _ _ _ P R
  match ds, hv with
  | [], hv => cases b <;> first | exact (show False from h).elim | (cases hb; done)
  | [d], hv =>
    obtain ⟨x, rfl, h1⟩ := rv1 hv
    cases b <;> first | (cases hb; done) | skip
    case len =>
      cases d <;> first | exact (show False from h).elim | skip
      · obtain ⟨p, ys, rfl, e2, e3⟩ := RepV.seq h1
        refine ⟨p, ys, rfl, .inl (SqL.of e2), ?_⟩
        rw [e3.len]
        exact kva h rfl
      · obtain ⟨p, ys, rfl, e2, e3⟩ := RepV.tupq h1
        refine ⟨p, ys, rfl, .inr (SqT.of e2), ?_⟩
        rw [e3.len]
        exact kva h rfl
    case abs =>
      cases d <;> first | exact (show False from h).elim | skip
      exact ⟨_, by rw [show x = _ from h1], kva h rfl⟩
    case int =>
      cases d <;> first | exact (show False from h).elim | skip
      · exact .inr ⟨_, by rw [show x = _ from h1], kva h rfl⟩
      · exact .inl ⟨_, by rw [show x = _ from h1], kva h rfl⟩
    case list =>
      cases d <;> first | exact (show False from h).elim | skip
      · obtain ⟨p, ys, rfl, e2, e3⟩ := RepV.seq h1
        exact ⟨p, ys, rfl, .inl (SqL.of e2), klst h e3⟩
      · obtain ⟨p, ys, rfl, e2, e3⟩ := RepV.tupq h1
        exact ⟨p, ys, rfl, .inr (SqT.of e2), klst h e3⟩
    case tuple =>
      cases d <;> first | exact (show False from h).elim | skip
      · obtain ⟨p, ys, rfl, e2, e3⟩ := RepV.seq h1
        refine ⟨p, ys, rfl, .inl ⟨SqL.of e2, fun l hl => ?_⟩⟩
        obtain ⟨P, R⟩ := out_tup S hl e3
        exact h _ _ _ P R
      · obtain ⟨p, ys, rfl, e2, e3⟩ := RepV.tupq h1
        exact ⟨p, ys, rfl, .inr ⟨SqT.of e2, kva h h1⟩⟩
    case sum =>
      cases d <;> first | exact (show False from h).elim | skip
      obtain ⟨p, ys, rfl, e2, e3⟩ := RepV.seq h1
      obtain ⟨ns, e, h⟩ := Rs.of_sat (Rs.sat_bind.mp h)
      have := e3.ints e
      subst this
      exact ⟨p, ns, rfl, SqL.of e2, kva h rfl⟩
    case max1 =>
      cases d <;> first | exact (show False from h).elim | skip
      obtain ⟨p, ys, rfl, e2, e3⟩ := RepV.seq h1
      obtain ⟨ns, e, h⟩ := Rs.of_sat (Rs.sat_bind.mp h)
      obtain ⟨hz, h⟩ := if_sat h
      have := e3.ints e
      subst this
      exact ⟨p, ns, rfl, SqL.of e2, hz, fun m h1 h2 => by rw [← maxI_eq ns m h1 h2]; exact kva h rfl⟩
    case max2 => cases d <;> exact (show False from h).elim
    case min2 => cases d <;> exact (show False from h).elim
    case all =>
      cases d <;> first | exact (show False from h).elim | skip
      obtain ⟨p, ys, rfl, e2, e3⟩ := RepV.seq h1
      obtain ⟨ns, e, h⟩ := Rs.of_sat (Rs.sat_bind.mp h)
      have := e3.bls e
      subst this
      exact ⟨p, ns, rfl, SqL.of e2, kva h rfl⟩
    case sorted =>
      cases d <;> first | exact (show False from h).elim | skip
      obtain ⟨p, ys, rfl, e2, e3⟩ := RepV.seq h1
      obtain ⟨ns, e, h⟩ := Rs.of_sat (Rs.sat_bind.mp h)
      have := e3.ints e
      subst this
      refine ⟨p, ns, rfl, SqL.of e2, fun ns' q hp hs hq => ?_⟩
      rw [sortI_eq hp hs]
      exact klst h (reps_int _) q hq
  | [d, e], hv =>
    obtain ⟨x, y, rfl, h1, h2⟩ := rv2 hv
    cases b <;> first | (cases hb; done) | skip
    case max2 =>
      cases d <;> cases e <;> first | exact (show False from h).elim | skip
      exact ⟨_, _, by rw [show x = _ from h1, show y = _ from h2], kva h rfl⟩
    case min2 =>
      cases d <;> cases e <;> first | exact (show False from h).elim | skip
      exact ⟨_, _, by rw [show x = _ from h1, show y = _ from h2], kva h rfl⟩
    all_goals first | exact (show False from h).elim | (cases d <;> first | exact (show False from h).elim | (cases e <;> exact (show False from h).elim))
  | d :: e :: f :: r, hv => cases b <;> first | (cases hb; done) | exact (show False from h).elim | (cases d <;> first | exact (show False from h).elim | (cases e <;> exact (show False from h).elim))

/-! ### methods of lists -/
def Bm.nm : Bm → Str
  | .append => "append" | .extend => "extend" | .insert => "insert" | .pop1 => "pop" | .remove => "remove" | .clear => "clear" | .index => "index" | .count => "count"
def Bm.id : Bm → String
  | .append => "list.append" | .extend => "list.extend" | .insert => "list.insert" | .pop1 => "list.pop" | .remove => "list.remove" | .clear => "list.clear" | .index => "list.index" | .count => "list.count"
def rBm (K : PySem.W.Frag) : Bm → V → List V → Hp → VK → Prop
  | .append => rAppend
  | .extend => fun x vs H Q => rExtend x vs H Q ∨ rExtendT K x vs H Q
  | .insert => fun x vs H Q => ∃ (l : Addr) (xs : List V) (i : Int) (y : V), x = .ref l ∧ vs = [.int i, y] ∧ H l = some (.lst xs) ∧ xs.length < sizeLine ∧ 0 ≤ i ∧ i < 2 ^ 63 ∧
    Q .non (upd H l (.lst (xs.take i.toNat ++ [y] ++ xs.drop i.toNat)))
  | .pop1 => rPopAt
  | .remove => rRemP K
  | .clear => rClear
  | .index => rIndexP K
  | .count => rCntI K
theorem mtBm {X : Cx} (hu : X.A.units + 64 < cLine) : ∀ m : Bm, MtR X m.id (rBm X.K m)
  | .append => mt_append
  | .extend => MtR.or mt_extend mt_extendT
  | .insert => mt_insert
  | .pop1 => mt_popAt
  | .remove => mt_remP hu
  | .clear => mt_clear
  | .index => mt_indexP hu
  | .count => mt_lcount
theorem tyBm {T : PySem.W.Frag} {x : V} {ds : List D} (h : RepV G (vis H Fo A) H x (.lst ds)) : tyV T "list" x H := by
  obtain ⟨p, ys, rfl, e2, _⟩ := RepV.seq h
  exact Or.inl ⟨rfl, _, SqL.of e2⟩
theorem bl_go (S : SR G Fo H σ sl A) {m : Bm} {d : D} {x : V} {ds : List D} {vs : List V} (h1 : RepV G (vis H Fo A) H x d) (hv : RepVs G (vis H Fo A) H vs ds) {Q : VK} (h : (blD m d ds).sat fun y => Kt G Fo A H σ sl Q (.va y)) : tyV G.K "list" x H ∧ rBm G.K m x vs H Q := by
  have kva : ∀ {v : V} {d : D}, Kt G Fo A H σ sl Q (.va d) → Rep G (vis H Fo A) v d → Q v H := fun {v d} k r => k _ _ _ (out_va S r).1 (out_va S r).2
  cases m <;> first | exact (show False from h).elim | skip
  case index =>
    cases d <;> first | exact (show False from h).elim | skip
    rename_i xs
    match ds, hv with
    | [], _ => exact (show False from h).elim
    | _ :: _ :: _, _ => exact (show False from h).elim
    | [d], hv =>
      obtain ⟨y, rfl, h2⟩ := rv1 hv
      refine ⟨tyBm h1, ?_⟩
      obtain ⟨z, h⟩ := if_satR (show (if _ then _ else _ : Rs D).sat _ from h)
      obtain ⟨j, e, h⟩ := Rs.of_sat (Rs.sat_bind.mp h)
      have e1 := h1.dp (d := .lst xs) (by simpa [D.pl] using z.2.1)
      rw [pyL] at e1
      obtain ⟨p, ys, rfl, e2, _⟩ := RepV.seq h1
      exact ⟨p, y, _, _, j, rfl, rfl, e1, h2.dp z.1, plains_of _ z.2.1, plain_of _ z.1, z.2.2, e, kva h rfl⟩
  case count =>
    cases d <;> first | exact (show False from h).elim | skip
    rename_i xs
    match ds, hv with
    | [], _ => exact (show False from h).elim
    | d :: _ :: _, _ => cases d <;> exact (show False from h).elim
    | [d], hv =>
      cases d <;> first | exact (show False from h).elim | skip
      obtain ⟨y, rfl, h2⟩ := rv1 hv
      refine ⟨tyBm h1, ?_⟩
      obtain ⟨ns, e, h⟩ := Rs.of_sat (Rs.sat_bind.mp h)
      obtain ⟨p, ys, rfl, e2, e3⟩ := RepV.seq h1
      have := e3.ints e
      subst this
      exact ⟨p, ns, _, rfl, by rw [show y = _ from h2], SqL.of e2, kva h rfl⟩
theorem rs1 {Hs : Hp} {vs : List V} {d : D} (h : Reps G Hs vs [d]) : ∃ v, vs = [v] ∧ Rep G Hs v d := by
  obtain ⟨v, r, e, h1, h2⟩ := h
  rw [show r = [] from h2] at e
  exact ⟨v, e, h1⟩
theorem rs2 {Hs : Hp} {vs : List V} {d e : D} (h : Reps G Hs vs [d, e]) : ∃ v w, vs = [v, w] ∧ Rep G Hs v d ∧ Rep G Hs w e := by
  obtain ⟨v, r, e1, h1, h2⟩ := h
  obtain ⟨w, e2, h3⟩ := rs1 h2
  subst e2
  exact ⟨v, w, e1, h1, h3⟩
/-- what is wanted behind a step that changes the list of slot i -/
abbrev Kc (G : Gx) (Fo : Fx) (A : Nat → List Addr) (H : Hp) (σ : L2.St) (sl : Sls) (i : Nat) (b : Bool) (Q : VK) (d : D) (ys : List D) : Prop :=
  ∀ H' A' v, SR G Fo H' σ (sl.set i (.ow b (.lst ys))) A' → Same (vis H Fo A) (vis H' Fo A') → (∀ x, Fo x → H' x = H x) → Rep G (vis H' Fo A') v d → Q v H'
theorem chg (S : SR G Fo H σ sl A) {i : Nat} {b : Bool} {xs ys : List D} {a : Addr} {us ws : List V} (e : sl[i]? = some (Sl.ow b (.lst xs))) (ea : σ[i]? = some (some (.ref a))) (hA : A i = [a]) (r : Reps G (vis H Fo A) ws ys) :
    SR G Fo (upd H a (.lst ws)) σ (sl.set i (.ow b (.lst ys))) (putB A i [a]) ∧ Same (vis H Fo A) (vis (upd H a (.lst ws)) Fo (putB A i [a])) ∧ ∀ x, Fo x → upd H a (.lst ws) x = H x := by
  have k : ∀ x o, x ∉ A i → H x = some o → upd H a (.lst ws) x = some o := fun x o n q => by
    rw [upd_ne (fun z => n (by rw [hA, z]; exact List.mem_cons_self))]
    exact q
  have ev : Same (vis H Fo A) (vis (upd H a (.lst ws)) Fo (putB A i [a])) := hide_same fun x o n q => ⟨fun z => by
    rcases z with z | ⟨j, z⟩
    · exact n (.inl z)
    · rcases mem_putB z with ⟨_, z⟩ | ⟨_, z⟩
      · exact n (.inr ⟨i, by rw [hA]; exact z⟩)
      · exact n (.inr ⟨j, z⟩), k x o (fun z => n (.inr ⟨i, z⟩)) q⟩
  refine S.change e ea (by simp) (fun x hx => .inl (by rw [hA]; exact hx)) k ?_
  exact ⟨rfl, ws, upd_same, r.mono ev⟩
theorem bm_go (S : SR G Fo H σ sl A) {m : Bm} {i : Nat} {b : Bool} {xs ds : List D} {a : Addr} {vs : List V} (e : sl[i]? = some (Sl.ow b (.lst xs))) (ea : σ[i]? = some (some (.ref a))) (hv : Reps G (vis H Fo A) vs ds) {Q : VK}
    (h : (bmD m xs ds).sat fun r => Kc G Fo A H σ sl i b Q r.1 r.2) : rBm G.K m (.ref a) vs H Q := by
  obtain ⟨a', ea', hA, us, hH, rp⟩ := S.ow i b _ e
  rw [ea] at ea'
  obtain rfl : a = a' := by injection ea' with q; injection q with q; injection q
  have fin : ∀ {d : D} {ys : List D} {ws : List V} {v : V}, Kc G Fo A H σ sl i b Q d ys → Reps G (vis H Fo A) ws ys → Rep G (vis H Fo A) v d → Q v (upd H a (.lst ws)) := fun {d ys ws v} k r q => by
    obtain ⟨S', ev, fo⟩ := chg S (us := us) e ea hA r
    exact k _ _ _ S' ev fo (q.mono ev)
  cases m <;> first | exact (show False from h).elim | skip
  case append =>
    match ds, hv with
    | [], _ => exact (show False from h).elim
    | _ :: _ :: _, _ => exact (show False from h).elim
    | [d], hv =>
      obtain ⟨y, rfl, h2⟩ := rs1 hv
      obtain ⟨z, h⟩ := if_sat h
      exact ⟨a, us, y, rfl, rfl, hH, by rw [rp.len]; exact z, fin h (rp.app ⟨y, [], rfl, h2, rfl⟩) rfl⟩
  case extend =>
    match ds, hv with
    | [], _ => exact (show False from h).elim
    | d :: _ :: _, _ => cases d <;> exact (show False from h).elim
    | [d], hv =>
      obtain ⟨y, rfl, h2⟩ := rs1 hv
      cases d <;> first | exact (show False from h).elim | skip
      case lst ys =>
        obtain ⟨z, h⟩ := if_sat h
        obtain ⟨c, ws, rfl, q2, q3⟩ := h2
        exact .inl ⟨a, c, us, ws, rfl, rfl, hH, hide_sub _ _ q2, by rw [rp.len, q3.len]; exact z, fin h (rp.app q3) rfl⟩
      case tup ys =>
        obtain ⟨z, h⟩ := if_sat h
        obtain ⟨c, ws, rfl, q2, q3⟩ := h2
        exact .inr ⟨a, c, us, ws, rfl, rfl, hH, SqT.of (hide_sub _ _ q2), by rw [rp.len, q3.len]; exact z, fin h (rp.app q3) rfl⟩
  case insert =>
    match ds, hv with
    | [], _ => exact (show False from h).elim
    | [d], _ => cases d <;> exact (show False from h).elim
    | d :: _ :: _ :: _, _ => cases d <;> exact (show False from h).elim
    | [d, d2], hv =>
      obtain ⟨y, y2, rfl, h2, h3⟩ := rs2 hv
      cases d <;> first | exact (show False from h).elim | skip
      rename_i n
      obtain ⟨⟨hn, z⟩, h'⟩ := if_sat (show (if _ then _ else _ : Rs (D × List D)).sat _ from h)
      subst hn
      have q : y = .int 0 := h2
      subst q
      refine ⟨a, us, 0, y2, rfl, rfl, hH, by rw [rp.len]; exact z, by decide, by decide, ?_⟩
      exact fin h' (show Reps G (vis H Fo A) ([] ++ [y2] ++ us) (d2 :: xs) from ⟨y2, us, rfl, h3, rp⟩) rfl
  case pop1 =>
    match ds, hv with
    | [], _ => exact (show False from h).elim
    | d :: _ :: _, _ => cases d <;> exact (show False from h).elim
    | [d], hv =>
      obtain ⟨y, rfl, h2⟩ := rs1 hv
      cases d <;> first | exact (show False from h).elim | skip
      rename_i n
      obtain ⟨z, h⟩ := if_satR (show (if _ then _ else _ : Rs (D × List D)).sat _ from h)
      obtain ⟨d, q, h⟩ := Rs.of_sat (Rs.sat_bind.mp h)
      have hy : y = .int n := h2
      subst hy
      obtain ⟨w, w1, w2⟩ := rp.get q
      have hl := rp.len
      have hix : ixN us.length n = some n.toNat := by
        unfold ixN
        rw [if_pos z.1, if_pos (by rw [hl]; exact z.2.1)]
      exact ⟨a, us, n, n.toNat, w, rfl, rfl, hH, by omega, z.2.2, (ixN_seq hix).1, w1, fin h (rp.erase _) w2⟩
  case remove =>
    match ds, hv with
    | [], _ => exact (show False from h).elim
    | d :: _ :: _, _ => exact (show False from h).elim
    | [d], hv =>
      obtain ⟨y, rfl, h2⟩ := rs1 hv
      obtain ⟨z, h⟩ := if_satR (show (if _ then _ else _ : Rs (D × List D)).sat _ from h)
      obtain ⟨j, q, h⟩ := Rs.of_sat (Rs.sat_bind.mp h)
      exact ⟨a, us, y, _, _, j, rfl, rfl, hH, Reps.dp (rp.mono hide_sub) z.2.1, Rep.dp (h2.mono hide_sub) z.1, plains_of _ z.2.1, plain_of _ z.1, z.2.2, q, fin h (rp.erase _) rfl⟩
  case clear =>
    match ds, hv with
    | _ :: _, _ => exact (show False from h).elim
    | [], hv =>
      have q : vs = [] := hv
      subst q
      exact ⟨a, us, rfl, rfl, hH, fin h (show Reps G (vis H Fo A) [] [] from rfl) rfl⟩
end
end Pf

/-! Pf5: steps of a frame; lists of outcomes; calls -/
namespace Pf
open PySem L2
/-- from a state with open places B to one with B' -/
structure Step (G : Gx) (Fo : Fx) (B : List Addr) (A : Nat → List Addr) (H : Hp) (B' : List Addr) (A' : Nat → List Addr) (H' : Hp) (σ : L2.St) (sl : Sls) : Prop where
  st : SR G (U Fo B') H' σ sl A'
  nd : B'.Nodup
  out : ∀ x ∈ B', ¬ Fo x
  ext : Same (vis H (U Fo B) A) (vis H' (U Fo B') A')
  fo : ∀ x, Fo x → H' x = H x
def RvRs (G : Gx) (Hs H : Hp) (σ : L2.St) : List Addr → List V → List Rv → Prop
  | B, vs, [] => B = [] ∧ vs = []
  | B, vs, r :: rs => ∃ B1 B2 v ws, B = B1 ++ B2 ∧ vs = v :: ws ∧ RvR G Hs H σ B1 v r ∧ RvRs G Hs H σ B2 ws rs
section
variable {G : Gx} {Fo : Fx} {A A1 A2 A' : Nat → List Addr} {H H1 H2 H' Hs Hs' : Hp} {σ : L2.St} {sl sl1 sl2 sl' : Sls} {B B1 B2 B' : List Addr} {v : V} {r : Rv} {vs : List V} {rs : List Rv}
theorem U_comm (Fo : Fx) (B C : List Addr) : U Fo (B ++ C) = U Fo (C ++ B) := fx_eq (fun x => by simp [U, or_comm]) rfl
theorem Post.step (a : Post G Fo A H B A1 H1 σ sl1) (b : Step G Fo B A1 H1 B' A' H' σ sl') : Post G Fo A H B' A' H' σ sl' :=
  ⟨b.st, b.nd, b.out, a.ext.trans b.ext, fun x hx => (b.fo x hx).trans (a.fo x hx)⟩
theorem Post.as (a : Post G Fo A H B A1 H1 σ sl1) : Step G Fo [] A H B A1 H1 σ sl1 := ⟨a.st, a.nd, a.out, by rw [U_nil]; exact a.ext, a.fo⟩
/-- a step in which all that was open stays open -/
theorem Post.drop (b : Post G (U Fo B) A1 H1 B' A' H' σ sl') (out : ∀ x ∈ B, ¬ Fo x) : Step G Fo B A1 H1 B' A' H' σ sl' ∧ Same (vis H' (U (U Fo B) B') A') (vis H' (U Fo B') A') := by
  have e : U (U Fo B) B' = U (U Fo B') B := by rw [U_app, U_app, U_comm]
  have st := b.st
  rw [e] at st
  obtain ⟨S', ev, _⟩ := st.open' (B := B) (Fo := U Fo B') fun x hx z => by
    rcases z with z | z
    · exact out x hx z
    · exact b.out x z (.inr hx)
  rw [← e] at ev
  exact ⟨⟨S', b.nd, fun x hx z => b.out x hx (.inl z), b.ext.trans ev, fun x hx => b.fo x (.inl hx)⟩, ev⟩
theorem RvR.mono (e : Same Hs Hs') (k : ∀ b ∈ B, H' b = H b) (h : RvR G Hs H σ B v r) : RvR G Hs' H' σ B v r := by
  cases r with
  | va d => exact ⟨h.1, h.2.mono e⟩
  | fr p =>
    obtain ⟨a, e1, o⟩ := h
    exact ⟨a, e1, o.mono e k⟩
  | s i => exact h
theorem RvRs.mono (e : Same Hs Hs') : ∀ {rs : List Rv} {B : List Addr} {vs : List V}, (∀ b ∈ B, H' b = H b) → RvRs G Hs H σ B vs rs → RvRs G Hs' H' σ B vs rs
  | [], _, _, _, h => h
  | r :: rs, B, vs, k, h => by
    obtain ⟨B1, B2, v, ws, e1, e2, h1, h2⟩ := h
    subst e1
    exact ⟨B1, B2, v, ws, rfl, e2, h1.mono e fun b hb => k b (List.mem_append_left _ hb), RvRs.mono e (fun b hb => k b (List.mem_append_right _ hb)) h2⟩
theorem RvRs.views (S : SR G Fo H σ sl A) : ∀ {rs : List Rv} {B : List Addr} {vs : List V} {ds : List D}, RvRs G (vis H Fo A) H σ B vs rs → viewR sl rs = .ok ds → RepVs G (vis H Fo A) H vs ds
  | [], _, _, ds, h, e => by
    cases e
    exact h.2
  | r :: rs, B, vs, ds, h, e => by
    obtain ⟨B1, B2, v, ws, e1, e2, h1, h2⟩ := h
    subst e2
    unfold viewR at e
    cases q : view sl r with
    | none => rw [q] at e; cases e
    | some d =>
      rw [q] at e
      cases q2 : viewR sl rs with
      | stuck => rw [q2] at e; cases e
      | ok es =>
        rw [q2] at e
        cases e
        exact ⟨v, ws, rfl, h1.view S q, RvRs.views S h2 q2⟩
theorem settle_view {d : D} (e : settle sl r = some (d, sl')) : view sl r = some d ∧ ∀ r', view sl' r' = view sl r' := by
  cases r with
  | va d' => cases e; exact ⟨rfl, fun _ => rfl⟩
  | fr p => cases e; exact ⟨rfl, fun _ => rfl⟩
  | s i =>
    simp only [settle] at e
    split at e
    · rename_i d' q
      cases e
      exact ⟨by simp only [view, q], fun _ => rfl⟩
    · rename_i p q
      cases e
      refine ⟨by simp only [view, q], fun r' => ?_⟩
      cases r' with
      | va _ => rfl
      | fr _ => rfl
      | s j =>
        by_cases z : i = j
        · subst z
          simp only [view, List.getElem?_set_self (List.getElem?_eq_some_iff.mp q).1, q]
        · simp only [view, List.getElem?_set_ne z]
    · cases e
theorem settle_len {d : D} (e : settle sl r = some (d, sl')) : sl'.length = sl.length := by
  cases r with
  | va d' => cases e; rfl
  | fr p => cases e; rfl
  | s i =>
    simp only [settle] at e
    split at e
    · cases e; rfl
    · cases e; exact List.length_set
    · cases e
theorem RvRs.settles : ∀ {rs : List Rv} {sl sl' : Sls} {A : Nat → List Addr} {B : List Addr} {vs : List V} {ds : List D}, SR G (U Fo B) H σ sl A → B.Nodup → (∀ x ∈ B, ¬ Fo x) → RvRs G (vis H (U Fo B) A) H σ B vs rs →
    settleR sl rs = .ok (ds, sl') → ∃ A', SR G Fo H σ sl' A' ∧ Same (vis H (U Fo B) A) (vis H Fo A') ∧ Reps G (vis H Fo A') vs ds ∧ viewR sl rs = .ok ds ∧ (∀ r', view sl' r' = view sl r')
  | [], sl, sl', A, B, vs, ds, S, nd, out, h, e => by
    cases e
    obtain ⟨e1, e2⟩ := h
    subst e1
    rw [U_nil] at S
    exact ⟨A, S, by rw [U_nil]; exact Same.refl _, e2, rfl, fun _ => rfl⟩
  | r :: rs, sl, sl', A, B, vs, ds, S, nd, out, h, e => by
    obtain ⟨B1, B2, v, ws, e1, e2, h1, h2⟩ := h
    subst e1 e2
    unfold settleR at e
    cases q : settle sl r with
    | none => rw [q] at e; cases e
    | some p =>
      obtain ⟨d, sl1⟩ := p
      rw [q] at e
      cases q2 : settleR sl1 rs with
      | stuck => simp only [Rs.of_some, Rs.bind_ok, q2] at e; cases e
      | ok p2 =>
        obtain ⟨es, sl2⟩ := p2
        simp only [Rs.of_some, Rs.bind_ok, q2] at e
        cases e
        have eU : U Fo (B1 ++ B2) = U (U Fo B2) B1 := by rw [U_app, U_comm]
        rw [eU] at S h1 h2 ⊢
        obtain ⟨nd1, nd2, dj⟩ := List.nodup_append.mp nd
        obtain ⟨A1, S1, ev1, rp1⟩ := RvR.settle S (fun x hx z => by
          rcases z with z | z
          · exact out x (List.mem_append_left _ hx) z
          · exact dj x hx x z rfl) h1 q
        obtain ⟨A2, S2, ev2, rp2, vw2, vs2⟩ := RvRs.settles S1 nd2 (fun x hx => out x (List.mem_append_right _ hx)) (h2.mono ev1 fun _ _ => rfl) q2
        obtain ⟨w1, w2⟩ := settle_view q
        have vwe : viewR sl rs = viewR sl1 rs := by
          have : ∀ l : List Rv, viewR sl1 l = viewR sl l := by
            intro l
            induction l with
            | nil => rfl
            | cons x l ih => unfold viewR; rw [w2 x, ih]
          exact (this rs).symm
        refine ⟨A2, S2, ev1.trans ev2, ⟨v, ws, rfl, rp1.mono ev2, rp2⟩, ?_, fun r' => (vs2 r').trans (w2 r')⟩
        unfold viewR
        rw [w1, vwe, vw2]
        rfl
/-- a def's outcome -/
def ResV (G : Gx) (Hs H : Hp) (B : List Addr) (v : V) : Rv → Prop
  | .va d => B = [] ∧ Rep G Hs v d
  | .fr p => ∃ a, v = .ref a ∧ Own G Hs H p a B
  | .s _ => False
/-- behind a call: r, what it told; v its value; B its new places; C the places of what was handed in to be changed -/
structure PostC (G : Gx) (Fo : Fx) (H : Hp) (vs : List V) (A : Nat → List Addr) (io : Option Nat) (q : Rv × Option OP) (H' : Hp) (B C : List Addr) (v : V) : Prop where
  nd : (B ++ C).Nodup
  out : ∀ x ∈ B ++ C, ¬ Fo x
  ext : Same (hide H (Hd Fo A)) (hide H' (U Fo (B ++ C)).fo)
  fo : ∀ x, Fo x → H' x = H x
  res : ResV G (hide H' (U Fo (B ++ C)).fo) H' B v q.1
  ioR : match io, q.2 with
    | none, none => C = []
    | some k, some p => ∃ a, vs[k]? = some (.ref a) ∧ Own G (hide H' (U Fo (B ++ C)).fo) H' p a C
    | _, _ => False
theorem RvRs.at : ∀ {rs : List Rv} {B : List Addr} {vs : List V} {m : Nat} {r : Rv}, RvRs G Hs H σ B vs rs → rs[m]? = some r → ∃ v B1, vs[m]? = some v ∧ (∀ x ∈ B1, x ∈ B) ∧ RvR G Hs H σ B1 v r
  | [], _, _, _, _, _, e => by simp at e
  | r0 :: rs, B, vs, 0, r, h, e => by
    obtain ⟨B1, B2, v, ws, e1, e2, h1, h2⟩ := h
    subst e1 e2
    simp at e
    subst e
    exact ⟨v, B1, rfl, fun x hx => List.mem_append_left _ hx, h1⟩
  | r0 :: rs, B, vs, m + 1, r, h, e => by
    obtain ⟨B1, B2, v, ws, e1, e2, h1, h2⟩ := h
    subst e1 e2
    obtain ⟨u, B3, q1, q2, q3⟩ := RvRs.at (m := m) h2 (by simpa using e)
    exact ⟨u, B3, by simpa using q1, fun x hx => List.mem_append_right _ (q2 x hx), q3⟩
theorem RvRs.len : ∀ {rs : List Rv} {B : List Addr} {vs : List V}, RvRs G Hs H σ B vs rs → vs.length = rs.length
  | [], _, _, h => by rw [h.2]; rfl
  | r0 :: rs, B, vs, h => by
    obtain ⟨B1, B2, v, ws, e1, e2, h1, h2⟩ := h
    subst e2
    simp [RvRs.len h2]
theorem viewR_at : ∀ {rs : List Rv} {ds : List D} {m : Nat} {d : D}, viewR sl rs = .ok ds → ds[m]? = some d → ∃ r, rs[m]? = some r ∧ view sl r = some d
  | [], ds, m, d, e, h => by cases e; simp at h
  | r :: rs, ds, m, d, e, h => by
    unfold viewR at e
    cases q : view sl r with
    | none => rw [q] at e; cases e
    | some d0 =>
      rw [q] at e
      cases q2 : viewR sl rs with
      | stuck => rw [q2] at e; cases e
      | ok es =>
        rw [q2] at e
        cases e
        cases m with
        | zero =>
          simp at h
          subst h
          exact ⟨r, rfl, q⟩
        | succ m =>
          obtain ⟨r', z1, z2⟩ := viewR_at (m := m) q2 (by simpa using h)
          exact ⟨r', by simpa using z1, z2⟩
theorem viewR_len : ∀ {rs : List Rv} {ds : List D}, viewR sl rs = .ok ds → ds.length = rs.length
  | [], ds, e => by cases e; rfl
  | r :: rs, ds, e => by
    unfold viewR at e
    cases q : view sl r with
    | none => rw [q] at e; cases e
    | some d0 =>
      rw [q] at e
      cases q2 : viewR sl rs with
      | stuck => rw [q2] at e; cases e
      | ok es =>
        rw [q2] at e
        cases e
        simp [viewR_len q2]

theorem own_flat {p : OP} {a : Addr} (f : p.flat = true) (h : Own G Hs H p a B) : Own G Hs' H p a B := by
  cases p with
  | obj c fs => cases f
  | lst ds =>
    obtain ⟨e1, vs, e2, e3⟩ := h
    cases q : scs ds with
    | none => simp [OP.flat, q] at f
    | some xs =>
      have := e3.scs q
      subst this
      exact ⟨e1, vs, e2, reps_scs q⟩
theorem rv_flat {q : Rv} (f : q.flat = true) (h : ResV G Hs H B v q) : RvR G Hs' H σ B v q := by
  cases q with
  | va d =>
    obtain ⟨e, r⟩ := h
    have f : d.sc.isSome = true := f
    cases z : d.sc with
    | none => rw [z] at f; cases f
    | some x =>
      have := r.sc z
      subst this
      exact ⟨e, rep_sc z⟩
  | fr p =>
    obtain ⟨a, e, o⟩ := h
    have f : p.flat = true := by
      cases p with
      | obj c fs => cases f
      | lst ds => exact f
    exact ⟨a, e, own_flat f o⟩
  | s i => exact h.elim
theorem rv_mono {q : Rv} (e : Same Hs Hs') (h : ResV G Hs H B v q) : RvR G Hs' H σ B v q := by
  cases q with
  | va d => exact ⟨h.1, h.2.mono e⟩
  | fr p =>
    obtain ⟨a, e1, o⟩ := h
    exact ⟨a, e1, o.mono e fun _ _ => rfl⟩
  | s i => exact h.elim
theorem rv_there {q : Rv} (h : ResV G Hs H B v q) : ∀ x ∈ B, H x ≠ none := fun x hx => by
  cases q with
  | va d => rw [h.1] at hx; cases hx
  | fr p =>
    obtain ⟨a, e, o⟩ := h
    obtain ⟨u, z⟩ := o.there x hx
    rw [z]; simp
  | s i => exact h.elim
/-- what the callee may not see: what callers hide; where its outcome may hold what it was handed (flat = false): all that we own -/
def Fc (Fo : Fx) (A : Nat → List Addr) (flat : Bool) (i : Option Nat) (ro : Nat → Addr) : Fx := ⟨fun x => Fo x ∨ (flat = false ∧ ∃ j, i ≠ some j ∧ x ∈ A j), ro⟩
/-- behind a call that changes nothing of ours -/
theorem call_none (S : SR G Fo H σ sl A) {flat : Bool} {ro : Nat → Addr} {C : List Addr} {q : Rv × Option OP} (P : PostC G (Fc Fo A flat none ro) H vs (fun _ => []) none q H' B C v) (hf : flat = true → q.1.flat = true) :
    q.2 = none ∧ Step G Fo [] A H B A H' σ sl ∧ RvR G (vis H' (U Fo B) A) H' σ B v q.1 := by
  have hq : q.2 = none := by
    have := P.ioR
    cases z : q.2 with
    | none => rfl
    | some p => rw [z] at this; exact this.elim
  have hC : C = [] := by
    have := P.ioR
    rw [hq] at this
    exact this
  subst hC
  have F1 : ∀ x o, ¬ (Fc Fo A flat none ro) x → H x = some o → H' x = some o ∧ x ∉ B := fun x o n e => by
    have h1 : hide H (Hd (Fc Fo A flat none ro) fun _ => []) x = some o := by
      rw [hide_no fun z => ?_]
      · exact e
      · rcases z with z | ⟨j, z⟩
        · exact n z
        · cases z
    obtain ⟨h2, h3⟩ := hide_some (P.ext x o h1)
    exact ⟨h3, fun z => h2 (.inr (List.mem_append_left _ z))⟩
  have notFo : ∀ j x, x ∈ A j → flat = true → ¬ (Fc Fo A flat none ro) x := fun j x hx f z => by
    rcases z with z | ⟨z, _⟩
    · exact S.fd j x hx z
    · rw [f] at z; cases z
  have keepA : ∀ j x, x ∈ A j → H' x = H x ∧ x ∉ B := fun j x hx => by
    obtain ⟨o, e⟩ := S.there hx
    cases flat with
    | true =>
      obtain ⟨h1, h2⟩ := F1 x o (notFo j x hx rfl) e
      exact ⟨h1.trans e.symm, h2⟩
    | false =>
      have z : (Fc Fo A false none ro) x := .inr ⟨rfl, j, by simp, hx⟩
      exact ⟨P.fo x z, fun y => P.out x (List.mem_append_left _ y) z⟩
  have ev : Same (vis H Fo A) (vis H' (U Fo B) A) := hide_same fun x o n e => by
    have n' : ¬ (Fc Fo A flat none ro) x := fun z => by
      rcases z with z | ⟨_, j, _, z⟩
      · exact n (.inl z)
      · exact n (.inr ⟨j, z⟩)
    obtain ⟨h1, h2⟩ := F1 x o n' e
    refine ⟨fun z => ?_, h1⟩
    rcases z with (z | z) | z
    · exact n (.inl z)
    · exact h2 z
    · exact n (.inr z)
  have ndB : B.Nodup := by have := P.nd; rw [List.append_nil] at this; exact this
  have outB : ∀ x ∈ B, ¬ Fo x := fun x hx z => P.out x (List.mem_append_left _ hx) (.inl z)
  have fo : ∀ x, Fo x → H' x = H x := fun x z => P.fo x (.inl z)
  refine ⟨hq, ⟨⟨S.len, fun j d e => ?_, fun j b p e => ?_, S.no, S.nd, S.dj, fun j x hx z => ?_, fun x z => ?_, S.ro⟩, ndB, outB, by rw [U_nil]; exact ev, fo⟩, ?_⟩
  · obtain ⟨w, w1, w2⟩ := S.va j d e
    exact ⟨w, w1, w2.mono ev⟩
  · obtain ⟨a, w1, w2⟩ := S.ow j b p e
    exact ⟨a, w1, w2.mono ev fun x hx => (keepA j x hx).1⟩
  · rcases z with z | z
    · exact S.fd j x hx z
    · exact (keepA j x hx).2 z
  · rcases z with z | z
    · rw [fo x z]; exact S.fa x z
    · exact rv_there P.res x z
  · cases flat with
    | true => exact rv_flat (hf rfl) P.res
    | false =>
      refine rv_mono (hide_mono fun y z => ?_) P.res
      rcases z with (z | z) | ⟨j, z⟩
      · exact .inl (.inl z)
      · exact .inr (List.mem_append_left _ z)
      · exact .inl (.inr ⟨rfl, j, by simp, z⟩)
/-- behind a call that changes slot i's own thing -/
theorem call_some (S : SR G Fo H σ sl A) {flat : Bool} {ro : Nat → Addr} {C : List Addr} {i k : Nat} {b : Bool} {p : OP} {a : Addr} (e : sl[i]? = some (Sl.ow b p)) (ea : σ[i]? = some (some (.ref a))) (ek : vs[k]? = some (.ref a)) {q : Rv × Option OP}
    (P : PostC G (Fc Fo A flat (some i) ro) H vs (fun m => if m = k then A i else []) (some k) q H' B C v) {p' : OP} (hp : q.2 = some p') (hf : flat = true → q.1.flat = true ∧ p'.flat = true) :
    Step G Fo [] A H B (putB A i C) H' σ (sl.set i (.ow b p')) ∧ RvR G (vis H' (U Fo B) (putB A i C)) H' σ B v q.1 := by
  obtain ⟨a', ea', oC⟩ : ∃ a, vs[k]? = some (.ref a) ∧ Own G (hide H' (U (Fc Fo A flat (some i) ro) (B ++ C)).fo) H' p' a C := by
    have := P.ioR
    rw [hp] at this
    exact this
  have : a' = a := by rw [ek] at ea'; injection ea' with z; injection z with z; exact z.symm
  subst this
  obtain ⟨ndB, ndC, djBC⟩ := List.nodup_append.mp P.nd
  have F1 : ∀ x o, ¬ (Fc Fo A flat (some i) ro) x → x ∉ A i → H x = some o → H' x = some o ∧ x ∉ B ∧ x ∉ C := fun x o n ni e => by
    have h1 : hide H (Hd (Fc Fo A flat (some i) ro) fun m => if m = k then A i else []) x = some o := by
      rw [hide_no fun z => ?_]
      · exact e
      · rcases z with z | ⟨j, z⟩
        · exact n z
        · have z : x ∈ (if j = k then A i else []) := z
          by_cases q : j = k
          · rw [if_pos q] at z; exact ni z
          · rw [if_neg q] at z; cases z
    obtain ⟨h2, h3⟩ := hide_some (P.ext x o h1)
    exact ⟨h3, fun z => h2 (.inr (List.mem_append_left _ z)), fun z => h2 (.inr (List.mem_append_right _ z))⟩
  have keepA : ∀ j, j ≠ i → ∀ x, x ∈ A j → H' x = H x ∧ x ∉ B ∧ x ∉ C := fun j hj x hx => by
    obtain ⟨o, q⟩ := S.there hx
    cases flat with
    | true =>
      obtain ⟨h1, h2, h3⟩ := F1 x o (fun z => by
        rcases z with z | ⟨z, _⟩
        · exact S.fd j x hx z
        · cases z) (S.dj j i x hj hx) q
      exact ⟨h1.trans q.symm, h2, h3⟩
    | false =>
      have z : (Fc Fo A false (some i) ro) x := .inr ⟨rfl, j, by simpa using fun w => hj w.symm, hx⟩
      exact ⟨P.fo x z, fun y => P.out x (List.mem_append_left _ y) z, fun y => P.out x (List.mem_append_right _ y) z⟩
  have outB : ∀ x ∈ B, ¬ Fo x := fun x hx z => P.out x (List.mem_append_left _ hx) (.inl z)
  have outC : ∀ x ∈ C, ¬ Fo x := fun x hx z => P.out x (List.mem_append_right _ hx) (.inl z)
  have fo : ∀ x, Fo x → H' x = H x := fun x z => P.fo x (.inl z)
  have hi : i < sl.length := (List.getElem?_eq_some_iff.mp e).1
  have ev : Same (vis H Fo A) (vis H' (U Fo B) (putB A i C)) := hide_same fun x o n q => by
    have n' : ¬ (Fc Fo A flat (some i) ro) x := fun z => by
      rcases z with z | ⟨_, j, _, z⟩
      · exact n (.inl z)
      · exact n (.inr ⟨j, z⟩)
    obtain ⟨h1, h2, h3⟩ := F1 x o n' (fun z => n (.inr ⟨i, z⟩)) q
    refine ⟨fun z => ?_, h1⟩
    rcases z with (z | z) | ⟨j, z⟩
    · exact n (.inl z)
    · exact h2 z
    · rcases mem_putB z with ⟨_, z⟩ | ⟨_, z⟩
      · exact h3 z
      · exact n (.inr ⟨j, z⟩)
  have evC : flat = false → Same (hide H' (U (Fc Fo A flat (some i) ro) (B ++ C)).fo) (vis H' (U Fo B) (putB A i C)) := fun f => hide_mono fun y z => by
    rcases z with (z | z) | ⟨j, z⟩
    · exact .inl (.inl z)
    · exact .inr (List.mem_append_left _ z)
    · rcases mem_putB z with ⟨_, z⟩ | ⟨z1, z⟩
      · exact .inr (List.mem_append_right _ z)
      · exact .inl (.inr ⟨f, j, by simpa using fun w => z1 w.symm, z⟩)
  have oC' : Own G (vis H' (U Fo B) (putB A i C)) H' p' a' C := by
    cases flat with
    | true => exact own_flat (hf rfl).2 oC
    | false => exact oC.mono (evC rfl) fun _ _ => rfl
  refine ⟨⟨⟨by rw [List.length_set]; exact S.len, fun j d e' => ?_, fun j b' p'' e' => ?_, fun j hh => ?_, fun j => ?_, fun j l x n hx hy => ?_, fun j x hx z => ?_, fun x z => ?_, fun j p'' e' => ?_⟩, ndB, outB, by rw [U_nil]; exact ev, fo⟩, ?_⟩
  · rcases get_set e' with ⟨z, z'⟩ | ⟨z, z'⟩
    · cases z'
    · obtain ⟨w, w1, w2⟩ := S.va j d z'
      exact ⟨w, w1, w2.mono ev⟩
  · rcases get_set e' with ⟨z, z'⟩ | ⟨z, z'⟩
    · subst z; cases z'
      rw [putB_eq]
      exact ⟨a', ea, oC'⟩
    · obtain ⟨w, w1, w2⟩ := S.ow j b' p'' z'
      rw [putB_ne z]
      exact ⟨w, w1, w2.mono ev fun x hx => (keepA j z x hx).1⟩
  · by_cases q : j = i
    · subst q
      exact absurd (List.getElem?_set_self hi) (hh _ _)
    · rw [putB_ne q]
      refine S.no j fun b' p' z => hh b' p' ?_
      rw [List.getElem?_set_ne (Ne.symm q)]; exact z
  · by_cases q : j = i
    · subst q; rw [putB_eq]; exact ndC
    · rw [putB_ne q]; exact S.nd j
  · rcases mem_putB hx with ⟨z1, z2⟩ | ⟨z1, z2⟩
    · rcases mem_putB hy with ⟨y1, y2⟩ | ⟨y1, y2⟩
      · exact n (z1.trans y1.symm)
      · exact (keepA l y1 x y2).2.2 z2
    · rcases mem_putB hy with ⟨y1, y2⟩ | ⟨y1, y2⟩
      · exact (keepA j z1 x z2).2.2 y2
      · exact S.dj j l x n z2 y2
  · rcases mem_putB hx with ⟨z1, z2⟩ | ⟨z1, z2⟩
    · rcases z with z | z
      · exact outC x z2 z
      · exact djBC x z x z2 rfl
    · rcases z with z | z
      · exact S.fd j x z2 z
      · exact (keepA j z1 x z2).2.1 z
  · rcases z with z | z
    · rw [fo x z]; exact S.fa x z
    · exact rv_there P.res x z
  · rcases get_set e' with ⟨z, z'⟩ | ⟨z, z'⟩
    · subst z; cases z'
      exact S.ro j p e
    · exact S.ro j p'' z'
  · cases flat with
    | true => exact rv_flat (hf rfl).1 P.res
    | false => exact rv_mono (evC rfl) P.res
end
end Pf

/-! Pf6: a call's promise; calls and makings joined -/
namespace Pf
open PySem L2
/-- what a def promises: its value, by the evaluator -/
def spI (G : Gx) (cf : CF) (io : Option Nat) (f : Nat) : Sp := fun vs H Q _ => ∃ Fo as A, SR G Fo H (vs.map some) as A ∧ (cf f as).sat fun q => ∀ H' B C v, PostC G Fo H vs A io q H' B C v → Q v H'
section
variable {G : Gx} {Fo : Fx} {A A1 A2 A' : Nat → List Addr} {H H1 H2 H' Hs Hs' : Hp} {σ : L2.St} {sl sl1 sl2 sl' : Sls} {B B1 B2 B' : List Addr} {v : V} {r : Rv} {vs : List V} {rs : List Rv}
theorem RvR.viewP (S : SR G Fo H σ sl A) (h : RvR G (vis H Fo A) H σ B v r) {d : D} (e : Pf.view sl r = some d) {P : AS} (hP : ∀ x, P x → Hd Fo A x) (hB : ∀ x ∈ B, ¬ P x) (hA : ∀ i, r = .s i → ∀ x ∈ A i, ¬ P x) : Rep G (hide H P) v d := by
  have ev : Same (vis H Fo A) (hide H P) := hide_mono hP
  cases r with
  | va d' =>
    have e' : d' = d := Option.some.inj e
    subst e'
    exact h.2.mono ev
  | fr p =>
    have e' : p.d = d := Option.some.inj e
    subst e'
    obtain ⟨a, e1, o⟩ := h
    subst e1
    exact o.rep ev fun x hx o ho => by rw [hide_no (hB x hx)]; exact ho
  | s i =>
    simp only [Pf.view] at e
    split at e
    · rename_i d' q
      cases e
      obtain ⟨w, w1, w2⟩ := S.va i _ q
      rw [h.2] at w1
      cases w1
      exact w2.mono ev
    · rename_i b p q
      cases e
      obtain ⟨w, w1, w2⟩ := S.ow i _ _ q
      rw [h.2] at w1
      cases w1
      exact w2.rep ev fun x hx o ho => by rw [hide_no (hA i rfl x hx)]; exact ho
    · cases e
theorem settle_keep {i : Nat} {d : D} (n : r.root ≠ some i) (e : settle sl r = some (d, sl')) : sl'[i]? = sl[i]? := by
  cases r with
  | va d' => cases e; rfl
  | fr p => cases e; rfl
  | s j =>
    have hj : j ≠ i := fun z => n (congrArg some z)
    simp only [settle] at e
    split at e
    · cases e; rfl
    · cases e
      exact List.getElem?_set_ne hj
    · cases e
theorem settleR_keep {i : Nat} : ∀ {rs : List Rv} {sl sl' : Sls} {ds : List D}, (∀ r ∈ rs, r.root ≠ some i) → settleR sl rs = .ok (ds, sl') → sl'[i]? = sl[i]?
  | [], sl, sl', ds, _, e => by cases e; rfl
  | r :: rs, sl, sl', ds, n, e => by
    unfold settleR at e
    cases q : settle sl r with
    | none => rw [q] at e; cases e
    | some p =>
      obtain ⟨d, sl1⟩ := p
      rw [q] at e
      cases q2 : settleR sl1 rs with
      | stuck => simp only [Rs.of_some, Rs.bind_ok, q2] at e; cases e
      | ok p2 =>
        obtain ⟨es, sl2⟩ := p2
        simp only [Rs.of_some, Rs.bind_ok, q2] at e
        cases e
        exact (settleR_keep (fun r' hr => n r' (List.mem_cons_of_mem _ hr)) q2).trans (settle_keep (n r List.mem_cons_self) q)
/-- one outcome is left out -/
theorem RvRs.omit : ∀ {rs : List Rv} {B : List Addr} {vs : List V} {k i : Nat}, RvRs G Hs H σ B vs rs → rs[k]? = some (.s i) → RvRs G Hs H σ B (vs.set k .non) (rs.set k (.va .non)) ∧ ∃ v, vs[k]? = some v ∧ σ[i]? = some (some v)
  | [], _, _, _, _, _, e => by simp at e
  | r0 :: rs, B, vs, 0, i, h, e => by
    obtain ⟨B1, B2, v, ws, e1, e2, h1, h2⟩ := h
    subst e1 e2
    simp at e
    subst e
    obtain ⟨z1, z2⟩ := h1
    exact ⟨⟨B1, B2, .non, ws, rfl, rfl, ⟨z1, rfl⟩, h2⟩, v, rfl, z2⟩
  | r0 :: rs, B, vs, k + 1, i, h, e => by
    obtain ⟨B1, B2, v, ws, e1, e2, h1, h2⟩ := h
    subst e1 e2
    obtain ⟨h3, u, q1, q2⟩ := RvRs.omit (k := k) h2 (by simpa using e)
    exact ⟨⟨B1, B2, v, _, rfl, rfl, h1, h3⟩, u, by simpa using q1, q2⟩
theorem viewR_set : ∀ {rs : List Rv} {ds : List D} {k : Nat}, viewR sl rs = .ok ds → viewR sl (rs.set k (.va .non)) = .ok (ds.set k .non)
  | [], ds, k, e => by cases e; rfl
  | r :: rs, ds, k, e => by
    unfold viewR at e
    cases q : view sl r with
    | none => rw [q] at e; cases e
    | some d0 =>
      rw [q] at e
      cases q2 : viewR sl rs with
      | stuck => rw [q2] at e; cases e
      | ok es =>
        rw [q2] at e
        cases e
        cases k with
        | zero =>
          show (Rs.of (view sl (.va .non))).bind _ = _
          simp only [view, Rs.of_some, Rs.bind_ok, q2]
          rfl
        | succ k =>
          show (Rs.of (view sl r)).bind _ = _
          simp only [q, Rs.of_some, Rs.bind_ok, viewR_set q2]
          rfl
/-- the state that a callee starts from: nothing of it may be changed -/
theorem sr_none {P : Fx} (fa : ∀ x, P x → H x ≠ none) {ds : List D} (len : vs.length = ds.length) (h : ∀ (j : Nat) d, ds[j]? = some d → ∃ v, vs[j]? = some v ∧ Rep G (hide H P.fo) v d) : SR G P H (vs.map some) (ds.map Sl.va) (fun _ => []) := by
  have e : Hd P (fun _ => []) = P.fo := funext fun x => propext ⟨(fun z => by
    rcases z with z | ⟨j, z⟩
    · exact z
    · cases z), fun z => .inl z⟩
  have hv : ∀ (i : Nat) (x : Sl), (ds.map Sl.va)[i]? = some x → ∃ d, ds[i]? = some d ∧ x = .va d := fun i x q => by
    rw [List.getElem?_map] at q
    cases z : ds[i]? with
    | none => rw [z] at q; cases q
    | some d => rw [z] at q; exact ⟨d, rfl, (Option.some.inj q).symm⟩
  refine ⟨by simp [len], fun i d q => ?_, fun i b p q => ?_, fun _ _ => rfl, fun _ => List.nodup_nil, (fun _ _ _ _ h => absurd h List.not_mem_nil), (fun _ _ h => absurd h List.not_mem_nil), fa, fun i p q => ?_⟩
  · obtain ⟨d', z1, z2⟩ := hv i _ q
    cases z2
    obtain ⟨v, w1, w2⟩ := h i d z1
    refine ⟨v, by rw [List.getElem?_map, w1]; rfl, ?_⟩
    rw [e]; exact w2
  · obtain ⟨d', z1, z2⟩ := hv i _ q
    cases z2
  · obtain ⟨d', z1, z2⟩ := hv i _ q
    cases z2
/-- .. the k-th may be changed: p at a, its places C -/
theorem sr_some {P : Fx} {k : Nat} {a : Addr} {p : OP} {C : List Addr} (fa : ∀ x, P x → H x ≠ none) {ds : List D} (len : vs.length = ds.length) (hk : vs[k]? = some (.ref a)) (hr : P.ro k = a) (nd : C.Nodup) (out : ∀ x ∈ C, ¬ P x)
    (h : ∀ (j : Nat) d, j ≠ k → ds[j]? = some d → ∃ v, vs[j]? = some v ∧ Rep G (hide H fun x => P x ∨ x ∈ C) v d) (ho : Own G (hide H fun x => P x ∨ x ∈ C) H p a C) : SR G P H (vs.map some) ((ds.map Sl.va).set k (.ow false p)) (fun m => if m = k then C else []) := by
  have hkl : k < ds.length := by rw [← len]; exact (List.getElem?_eq_some_iff.mp hk).1
  have e : Hd P (fun m => if m = k then C else []) = fun x => P x ∨ x ∈ C := funext fun x => propext ⟨(fun z => by
    rcases z with z | ⟨j, z⟩
    · exact .inl z
    · have z : x ∈ (if j = k then C else []) := z
      by_cases q : j = k
      · rw [if_pos q] at z; exact .inr z
      · rw [if_neg q] at z; cases z), (fun z => by
    rcases z with z | z
    · exact .inl z
    · exact .inr ⟨k, by show x ∈ (if k = k then C else []); rw [if_pos rfl]; exact z⟩)⟩
  have hv : ∀ (i : Nat) (x : Sl), ((ds.map Sl.va).set k (.ow false p))[i]? = some x → (i = k ∧ x = .ow false p) ∨ (i ≠ k ∧ ∃ d, ds[i]? = some d ∧ x = .va d) := fun i x q => by
    rcases get_set q with ⟨z1, z2⟩ | ⟨z1, z2⟩
    · exact .inl ⟨z1, z2.symm⟩
    · refine .inr ⟨z1, ?_⟩
      rw [List.getElem?_map] at z2
      cases z : ds[i]? with
      | none => rw [z] at z2; cases z2
      | some d => rw [z] at z2; exact ⟨d, rfl, (Option.some.inj z2).symm⟩
  refine ⟨by simp [len], fun i d q => ?_, fun i b p' q => ?_, fun i hh => ?_, fun i => ?_, fun i j x n hx hy => ?_, fun i x hx => ?_, fa, fun i p' q => ?_⟩
  · rcases hv i _ q with ⟨z1, z2⟩ | ⟨z1, d', z2, z3⟩
    · cases z2
    · cases z3
      obtain ⟨v, w1, w2⟩ := h i d z1 z2
      refine ⟨v, by rw [List.getElem?_map, w1]; rfl, ?_⟩
      rw [e]; exact w2
  · rcases hv i _ q with ⟨z1, z2⟩ | ⟨z1, d', z2, z3⟩
    · cases z2
      subst z1
      refine ⟨a, by rw [List.getElem?_map, hk]; rfl, ?_⟩
      rw [e, if_pos rfl]; exact ho
    · cases z3
  · by_cases q : i = k
    · subst q
      exact absurd (List.getElem?_set_self (by simpa using hkl)) (hh _ _)
    · exact if_neg q
  · show (if i = k then C else []).Nodup
    by_cases q : i = k
    · rw [if_pos q]; exact nd
    · rw [if_neg q]; exact List.nodup_nil
  · have hx : x ∈ (if i = k then C else []) := hx
    have hy : x ∈ (if j = k then C else []) := hy
    by_cases q : i = k
    · rw [if_neg fun z => n (q.trans z.symm)] at hy; cases hy
    · rw [if_neg q] at hx; cases hx
  · have hx : x ∈ (if i = k then C else []) := hx
    by_cases q : i = k
    · rw [if_pos q] at hx; exact out x hx
    · rw [if_neg q] at hx; cases hx
  · rcases hv i _ q with ⟨z1, z2⟩ | ⟨z1, d', z2, z3⟩
    · subst z1
      rw [List.getElem?_map, hk, hr]; rfl
    · cases z3
theorem Step.opened (S : SR G (U Fo B) H σ sl A) (hB : ∀ x ∈ B, ¬ Fo x) (st : Step G Fo [] A H B' A' H' σ sl') : Step G Fo B A H B' A' H' σ sl' := by
  obtain ⟨_, ev, _⟩ := S.open' hB
  have := st.ext
  rw [U_nil] at this
  exact ⟨st.st, st.nd, st.out, ev.trans this, st.fo⟩
theorem Step.later (ev : Same (vis H (U Fo B) A) (vis H Fo A1)) (st : Step G Fo [] A1 H B' A' H' σ sl') : Step G Fo B A H B' A' H' σ sl' := by
  have := st.ext
  rw [U_nil] at this
  exact ⟨st.st, st.nd, st.out, ev.trans this, st.fo⟩
/-- what may follow -/
abbrev Kn (G : Gx) (Fo : Fx) (B : List Addr) (A : Nat → List Addr) (H : Hp) (σ : L2.St) (Q : VK) (q : Rv × Sls) : Prop := ∀ H' A' B' v, Step G Fo B A H B' A' H' σ q.2 → RvR G (vis H' (U Fo B') A') H' σ B' v q.1 → Q v H'
theorem call_go {cf : CF} {io : Option Nat} {f : Nat} (S : SR G (U Fo B) H σ sl A) (nd : B.Nodup) (out : ∀ x ∈ B, ¬ Fo x) (R : RvRs G (vis H (U Fo B) A) H σ B vs rs) {Q : VK} {E : XK}
    (h0 : (doCall cf io f rs sl).sat (Kn G Fo B A H σ Q)) : spI G cf io f vs H Q E := by
  have h0 := Rs.sat_bind.mp h0
  cases ea : argS sl io rs with
  | stuck => rw [ea] at h0; exact h0.elim
  | ok as =>
    rw [ea] at h0
    replace h0 := Rs.sat_bind.mp (show Rs.sat (Rs.bind (cf f as) _) _ from h0)
    cases eq : cf f as with
    | stuck => rw [eq] at h0; exact h0.elim
    | ok q =>
      rw [eq] at h0
      have h := Rs.sat_ok.mp h0
      clear h0
      obtain ⟨ds, ev⟩ : ∃ ds, viewR sl rs = .ok ds := by
        unfold argS at ea
        cases z : viewR sl rs with
        | stuck => rw [z] at ea; cases ea
        | ok ds => exact ⟨ds, rfl⟩
      have ea2 := ea
      unfold argS at ea2
      rw [ev, Rs.bind_ok] at ea2
      have lds := viewR_len ev
      have lvs := R.len
      cases io with
      | none =>
        cases ea2
        have h : Rs.sat (match q.2 with
          | none => if q.1.flat = true then Rs.ok (q.1, sl) else (settleR sl rs).bind fun z => .ok (q.1, z.2)
          | some _ => .stuck) _ := h
        by_cases fl : q.1.flat = true
        · -- what comes back holds nothing of ours
          obtain ⟨S', ev', op⟩ := S.open' out
          refine ⟨Fc Fo A true none fun _ => 0, _, _, sr_none (fun x z => ?_) (lvs.trans lds.symm) fun j d z => ?_, ?_⟩
          · rcases z with z | ⟨z, _⟩
            · exact S'.fa x z
            · cases z
          · obtain ⟨r, z1, z2⟩ := viewR_at ev z
            obtain ⟨v, B1, w1, w2, w3⟩ := R.at z1
            refine ⟨v, w1, w3.viewP S z2 (fun x hx => ?_) (fun x hx hz => ?_) fun i _ x hx hz => ?_⟩
            · rcases hx with hx | ⟨hx, _⟩
              · exact .inl (.inl hx)
              · cases hx
            · rcases hz with hz | ⟨hz, _⟩
              · exact out x (w2 x hx) hz
              · cases hz
            · rcases hz with hz | ⟨hz, _⟩
              · exact S'.fd i x hx hz
              · cases hz
          · rw [eq]
            intro H' B' C v P
            obtain ⟨q1, st, rv⟩ := call_none S' P fun _ => fl
            rw [q1, if_pos fl] at h
            exact h H' A B' v (st.opened S out) rv
        · cases q2 : q.2 with
          | some p => rw [q2] at h; exact h.elim
          | none =>
            rw [q2, if_neg fl] at h
            cases es : settleR sl rs with
            | stuck => rw [es] at h; exact h.elim
            | ok z =>
              obtain ⟨ds', sl'⟩ := z
              rw [es] at h
              obtain ⟨A1, S1, ev1, rp, vw, _⟩ := R.settles S nd out es
              rw [ev] at vw
              cases vw
              refine ⟨Fc Fo A1 false none fun _ => 0, _, _, sr_none (fun x z => ?_) (lvs.trans lds.symm) fun j d z => ?_, ?_⟩
              · rcases z with z | ⟨_, j, _, z⟩
                · exact S1.fa x z
                · obtain ⟨o, e⟩ := S1.there z
                  rw [e]; simp
              · obtain ⟨v, w1, w2⟩ := rp.get z
                refine ⟨v, w1, w2.mono (hide_mono fun x hx => ?_)⟩
                rcases hx with hx | ⟨_, j, _, hx⟩
                · exact .inl hx
                · exact .inr ⟨j, hx⟩
              · rw [eq]
                intro H' B' C v P
                obtain ⟨q1, st, rv⟩ := call_none S1 P fun z => by cases z
                exact h H' A1 B' v (st.later ev1) rv
      | some k =>
        dsimp only at ea2
        cases er : rs[k]? with
        | none => rw [er] at ea2; cases ea2
        | some r =>
          cases r with
          | va d => rw [er] at ea2; cases ea2
          | fr p => rw [er] at ea2; cases ea2
          | s i =>
            rw [er] at ea2
            cases ei : sl[i]? with
            | none => simp only [ei] at ea2; cases ea2
            | some x =>
              cases x with
              | un => simp only [ei] at ea2; cases ea2
              | va d => simp only [ei] at ea2; cases ea2
              | ow b p =>
                simp only [ei] at ea2
                cases ea2
                cases q2 : q.2 with
                | none => simp only [er, q2] at h; exact h.elim
                | some p' =>
                  simp only [er, q2] at h
                  by_cases hroot : ((rs.set k (.va .non)).all fun r => decide (r.root ≠ some i)) = true
                  case neg => rw [if_neg hroot] at h; exact h.elim
                  rw [if_pos hroot] at h
                  have hroot : ∀ r ∈ rs.set k (.va .non), r.root ≠ some i := fun r hr => of_decide_eq_true (List.all_eq_true.mp hroot r hr)
                  obtain ⟨R', v, hv, hσ⟩ := R.omit er
                  have hkl : k < rs.length := (List.getElem?_eq_some_iff.mp er).1
                  have nroot : ∀ j r, j ≠ k → rs[j]? = some r → r.root ≠ some i := fun j r n e => hroot r (List.mem_of_getElem? (i := j) (by rw [List.getElem?_set_ne (Ne.symm n)]; exact e))
                  by_cases fl : q.1.flat = true ∧ p'.flat = true
                  · rw [if_pos fl] at h
                    obtain ⟨S', ev', op⟩ := S.open' out
                    obtain ⟨a, z1, o⟩ := S'.ow i b p ei
                    rw [hσ] at z1
                    have z1 : v = .ref a := by injection z1 with z1; injection z1
                    subst z1
                    refine ⟨Fc Fo A true (some i) fun _ => a, _, _, sr_some (k := k) (a := a) (p := p) (C := A i) (fun x z => ?_) (lvs.trans lds.symm) hv rfl (S'.nd i) (fun x hx z => ?_) (fun j d n z => ?_) ?_, ?_⟩
                    · rcases z with z | ⟨z, _⟩
                      · exact S'.fa x z
                      · cases z
                    · rcases z with z | ⟨z, _⟩
                      · exact S'.fd i x hx z
                      · cases z
                    · obtain ⟨r, z1, z2⟩ := viewR_at ev z
                      obtain ⟨v, B1, w1, w2, w3⟩ := R.at z1
                      refine ⟨v, w1, w3.viewP S z2 (fun x hx => ?_) (fun x hx hz => ?_) fun l hl x hx hz => ?_⟩
                      · rcases hx with (hx | ⟨hx, _⟩) | hx
                        · exact .inl (.inl hx)
                        · cases hx
                        · exact .inr ⟨i, hx⟩
                      · rcases hz with (hz | ⟨hz, _⟩) | hz
                        · exact out x (w2 x hx) hz
                        · cases hz
                        · exact S.fd i x hz (.inr (w2 x hx))
                      · rcases hz with (hz | ⟨hz, _⟩) | hz
                        · exact S'.fd l x hx hz
                        · cases hz
                        · refine S.dj l i x (fun y => ?_) hx hz
                          subst y; subst hl
                          exact nroot j _ n z1 rfl
                    · refine o.mono (hide_mono fun x hx => ?_) fun _ _ => rfl
                      rcases hx with (hx | ⟨hx, _⟩) | hx
                      · exact .inl hx
                      · cases hx
                      · exact .inr ⟨i, hx⟩
                    · rw [eq]
                      intro H' B' C v P
                      obtain ⟨st, rv⟩ := call_some S' ei hσ hv P q2 fun _ => fl
                      rw [ei] at h
                      exact h H' _ B' v (st.opened S out) rv
                  · rw [if_neg fl] at h
                    cases es : settleR sl (rs.set k (.va .non)) with
                    | stuck => rw [es] at h; exact h.elim
                    | ok z =>
                      obtain ⟨ds', sl'⟩ := z
                      rw [es] at h
                      obtain ⟨A1, S1, ev1, rp, vw, _⟩ := R'.settles S nd out es
                      rw [viewR_set ev] at vw
                      cases vw
                      have ei1 : sl'[i]? = some (.ow b p) := (settleR_keep hroot es).trans ei
                      obtain ⟨a, z1, o⟩ := S1.ow i b p ei1
                      rw [hσ] at z1
                      have z1 : v = .ref a := by injection z1 with z1; injection z1
                      subst z1
                      refine ⟨Fc Fo A1 false (some i) fun _ => a, _, _, sr_some (k := k) (a := a) (p := p) (C := A1 i) (fun x z => ?_) (lvs.trans lds.symm) hv rfl (S1.nd i) (fun x hx z => ?_) (fun j d n z => ?_) ?_, ?_⟩
                      · rcases z with z | ⟨_, j, _, z⟩
                        · exact S1.fa x z
                        · obtain ⟨o, e⟩ := S1.there z
                          rw [e]; simp
                      · rcases z with z | ⟨_, j, n, z⟩
                        · exact S1.fd i x hx z
                        · exact S1.dj i j x (fun y => n (congrArg some y)) hx z
                      · obtain ⟨v, w1, w2⟩ := rp.get (i := j) (d := d) (by rw [List.getElem?_set_ne (Ne.symm n)]; exact z)
                        rw [List.getElem?_set_ne (Ne.symm n)] at w1
                        refine ⟨v, w1, w2.mono (hide_mono fun x hx => ?_)⟩
                        rcases hx with (hx | ⟨_, l, _, hx⟩) | hx
                        · exact .inl hx
                        · exact .inr ⟨l, hx⟩
                        · exact .inr ⟨i, hx⟩
                      · refine o.mono (hide_mono fun x hx => ?_) fun _ _ => rfl
                        rcases hx with (hx | ⟨_, l, _, hx⟩) | hx
                        · exact .inl hx
                        · exact .inr ⟨l, hx⟩
                        · exact .inr ⟨i, hx⟩
                      · rw [eq]
                        intro H' B' C v P
                        obtain ⟨st, rv⟩ := call_some S1 ei1 hσ hv P q2 fun z => by cases z
                        simp only [Rs.bind_ok, ei1] at h
                        exact h H' _ B' v (st.later ev1) rv
/-- an instance is made -/
theorem make_go {cf : CF} {io : Option Nat} {c f : Nat} (S : SR G (U Fo B) H σ sl A) (nd : B.Nodup) (out : ∀ x ∈ B, ¬ Fo x) (R : RvRs G (vis H (U Fo B) A) H σ B vs rs) {Q : VK} {E : XK}
    (h : (doMake cf io c f rs sl).sat (Kn G Fo B A H σ Q)) {x dx : Addr} (hx : H x = none) (hdx : H dx = none) (hne : dx ≠ x) :
    spI G cf io f (.ref x :: vs) (upd (upd H dx (.own x)) x (.ins (G.CA c) dx [])) (fun v H' => v = .non ∧ Q (.ref x) H') E := by
  have h := Rs.sat_bind.mp h
  cases es : settleR sl rs with
  | stuck => rw [es] at h; exact h.elim
  | ok z =>
    obtain ⟨ds, sl'⟩ := z
    rw [es] at h
    have h := Rs.sat_bind.mp (show Rs.sat (Rs.bind (cf f _) _) _ from h)
    obtain ⟨A1, S1, ev1, rp, vw, _⟩ := R.settles S nd out es
    cases eq : cf f (.ow false (.obj c []) :: ds.map Sl.va) with
    | stuck => rw [eq] at h; exact h.elim
    | ok q =>
      rw [eq] at h
      have kp : Same H (upd (upd H dx (.own x)) x (.ins (G.CA c) dx [])) := fun b o e => by
        rw [upd_ne (ne_of_none e hx), upd_ne (ne_of_none e hdx)]; exact e
      have h : Rs.sat (match io, q.1, q.2 with
        | some 0, .va .non, some p => Rs.ok ((.fr p : Rv), sl')
        | _, _, _ => .stuck) (Kn G Fo B A H σ Q) := h
      split at h
      · rename_i _ p q1 q2 _ _ _
        have nF : ∀ y, (Fc Fo A1 false none fun _ => x) y → y ≠ x := fun y z w => by
          subst w
          rcases z with z | ⟨_, j, _, z⟩
          · exact S1.fa _ z hx
          · obtain ⟨o, e⟩ := S1.there z
            rw [hx] at e; cases e
        have S2 := (S1.grow kp List.nodup_nil fun _ h => nomatch h)
        have sr := sr_some (G := G) (H := upd (upd H dx (.own x)) x (.ins (G.CA c) dx [])) (vs := .ref x :: vs) (P := Fc Fo A1 false none fun _ => x) (k := 0) (a := x) (p := .obj c []) (C := [x]) (ds := .non :: ds) (fun y z => ?_) (by simp [R.len, viewR_len vw]) rfl rfl (by simp) (fun y hy z => ?_) (fun j d n z => ?_) ⟨dx, [], [], rfl, upd_same, rfl, rfl⟩
        · refine ⟨_, _, _, sr, ?_⟩
          show ((cf f _).sat _)
          rw [show ((D.non :: ds).map Sl.va).set 0 (.ow false (.obj c [])) = .ow false (.obj c []) :: ds.map Sl.va from rfl, eq]
          intro H' B' C v P
          have P1 := P.res
          rw [q1] at P1
          obtain ⟨eB, ev⟩ := P1
          subst eB
          have ev : v = .non := ev
          subst ev
          have P2 := P.ioR
          rw [q2] at P2
          obtain ⟨a, ea, oC⟩ := P2
          have ea : a = x := by
            have : some (V.ref x) = some (V.ref a) := ea
            injection this with this; injection this with this; exact this.symm
          subst ea
          refine ⟨rfl, h H' A1 C (.ref a) ?_ ⟨a, rfl, ?_⟩⟩
          · have ndC : C.Nodup := P.nd
            have outC : ∀ y ∈ C, ¬ Fo y := fun y hy z => P.out y hy (.inl z)
            have F1 : ∀ y o, ¬ (Fc Fo A1 false none fun _ => a) y → H y = some o → H' y = some o ∧ y ∉ C := fun y o n e => by
              have h1 : hide (upd (upd H dx (.own a)) a (.ins (G.CA c) dx [])) (Hd (Fc Fo A1 false none fun _ => a) fun m => if m = 0 then [a] else []) y = some o := by
                rw [hide_no fun z => ?_]
                · exact kp y o e
                · rcases z with z | ⟨j, z⟩
                  · exact n z
                  · have z : y ∈ (if j = 0 then [a] else []) := z
                    by_cases w : j = 0
                    · rw [if_pos w] at z
                      have : y = a := by simpa using z
                      subst this
                      rw [hx] at e; cases e
                    · rw [if_neg w] at z; cases z
              obtain ⟨h2, h3⟩ := hide_some (P.ext y o h1)
              exact ⟨h3, fun z => h2 (.inr z)⟩
            have fo' : ∀ y, (Fc Fo A1 false none fun _ => a) y → H' y = H y := fun y z => by
              rw [P.fo y z, upd_ne (nF y z), upd_ne fun w => ?_]
              subst w
              rcases z with z | ⟨_, j, _, z⟩
              · exact S1.fa _ z hdx
              · obtain ⟨o, e⟩ := S1.there z
                rw [hdx] at e; cases e
            have keepA : ∀ j y, y ∈ A1 j → H' y = H y ∧ y ∉ C := fun j y hy => by
              have z : (Fc Fo A1 false none fun _ => a) y := .inr ⟨rfl, j, by simp, hy⟩
              exact ⟨fo' y z, fun w => P.out y w z⟩
            have ev : Same (vis H Fo A1) (vis H' (U Fo C) A1) := hide_same fun y o n e => by
              obtain ⟨h1, h2⟩ := F1 y o (fun z => by
                rcases z with z | ⟨_, j, _, z⟩
                · exact n (.inl z)
                · exact n (.inr ⟨j, z⟩)) e
              refine ⟨fun z => ?_, h1⟩
              rcases z with (z | z) | z
              · exact n (.inl z)
              · exact h2 z
              · exact n (.inr z)
            refine ⟨⟨S1.len, fun j d e => ?_, fun j b p e => ?_, S1.no, S1.nd, S1.dj, fun j y hy z => ?_, fun y z => ?_, S1.ro⟩, ndC, outC, ev1.trans ev, fun y z => fo' y (.inl z)⟩
            · obtain ⟨w, w1, w2⟩ := S1.va j d e
              exact ⟨w, w1, w2.mono ev⟩
            · obtain ⟨a, w1, w2⟩ := S1.ow j b p e
              exact ⟨a, w1, w2.mono ev fun y hy => (keepA j y hy).1⟩
            · rcases z with z | z
              · exact S1.fd j y hy z
              · exact (keepA j y hy).2 z
            · rcases z with z | z
              · rw [fo' y (.inl z)]; exact S1.fa y z
              · obtain ⟨o, e⟩ := oC.there y z
                rw [e]; simp
          · refine oC.mono (hide_mono fun y z => ?_) fun _ _ => rfl
            rcases z with (z | z) | ⟨j, z⟩
            · exact .inl (.inl z)
            · exact .inr z
            · exact .inl (.inr ⟨rfl, j, by simp, z⟩)
        · rcases z with z | ⟨_, j, _, z⟩
          · intro w
            cases e : H y with
            | none => exact S1.fa y z e
            | some o => rw [kp y o e] at w; cases w
          · obtain ⟨o, e⟩ := S1.there z
            rw [kp y o e]; simp
        · have : y = x := by simpa using hy
          exact nF y z this
        · cases j with
          | zero => exact absurd rfl n
          | succ j =>
            obtain ⟨v, w1, w2⟩ := rp.get (i := j) (d := d) (by simpa using z)
            refine ⟨v, by simpa using w1, w2.mono (hide_same fun y o ny e => ⟨fun w => ?_, kp y o e⟩)⟩
            rcases w with (w | ⟨_, j, _, w⟩) | w
            · exact ny (.inl w)
            · exact ny (.inr ⟨j, w⟩)
            · have : y = x := by simpa using w
              subst this
              rw [hx] at e; cases e
      · exact h.elim
end
end Pf

/-! Pf7: expressions -/
namespace Pf
open PySem L2
theorem PE.imp {X : Cx} {e : Expr} {t t' : TE} (h : L2.PE X e t) (k : ∀ σ H Q, t' σ H Q → t σ H Q) : L2.PE X e t' := ⟨fun pins s σ H Q I q => h.run pins s σ H Q I (k σ H Q q)⟩
theorem PT.imp {X : Cx} {e : Expr} {t t' : TT} (h : L2.PT X e t) (k : ∀ σ H Q, t' σ H Q → t σ H Q) : L2.PT X e t' := ⟨fun pins s σ H Q I q => h.run pins s σ H Q I (k σ H Q q)⟩
theorem PA.imp {X : Cx} {es : List Expr} {t t' : TA} (h : L2.PA X es t) (k : ∀ σ H Q, t' σ H Q → t σ H Q) : L2.PA X es t' := ⟨fun pos pins s σ H Q I q => h.run pos pins s σ H Q I (k σ H Q q)⟩
section
variable (G : Gx) (T : Tab) (cf : CF)
/-- what may follow an expression -/
abbrev KE (Fo : Fx) (A : Nat → List Addr) (H : Hp) (σ : L2.St) (Q : VK) (q : Rv × Sls) : Prop := ∀ H' A' B v, Post G Fo A H B A' H' σ q.2 → RvR G (vis H' (U Fo B) A') H' σ B v q.1 → Q v H'
abbrev KT (Fo : Fx) (A : Nat → List Addr) (H : Hp) (σ : L2.St) (Q : Bool → Hp → Prop) (q : Bool × Sls) : Prop := ∀ H' A', Post G Fo A H [] A' H' σ q.2 → Q q.1 H'
abbrev KA (Fo : Fx) (A : Nat → List Addr) (H : Hp) (σ : L2.St) (Q : List V → Hp → Prop) (q : List Rv × Sls) : Prop := ∀ H' A' B vs, Post G Fo A H B A' H' σ q.2 → RvRs G (vis H' (U Fo B) A') H' σ B vs q.1 → Q vs H'
def tE (p : PE) : TE := fun σ H Q => ∃ Fo A sl, SR G Fo H σ sl A ∧ (evE T cf p sl).sat (KE G Fo A H σ Q)
def tT (p : PE) : TT := fun σ H Q => ∃ Fo A sl, SR G Fo H σ sl A ∧ (evT T cf p sl).sat (KT G Fo A H σ Q)
def tAs (es : PEs) : TA := fun σ H Q => ∃ Fo A sl, SR G Fo H σ sl A ∧ (evEs T cf es sl).sat (KA G Fo A H σ Q)
end
/-- an expression's reading -/
abbrev RE (G : Gx) (T : Tab) (cf : CF) (X : Cx) (e : Expr) (p : PE) : Prop := L2.PE X e (tE G T cf p)
abbrev RT (G : Gx) (T : Tab) (cf : CF) (X : Cx) (e : Expr) (p : PE) : Prop := L2.PT X e (tT G T cf p)
abbrev RA (G : Gx) (T : Tab) (cf : CF) (X : Cx) (es : List Expr) (ps : PEs) : Prop := L2.PA X es (tAs G T cf ps)
section
variable {G : Gx} {T : Tab} {cf : CF} {Fo : Fx} {A A1 A2 A' : Nat → List Addr} {H H1 H2 H' Hs Hs' : Hp} {σ : L2.St} {sl sl1 sl2 sl' : Sls} {B B1 B2 B' : List Addr} {v : V} {r : Rv}
theorem Post.opn (P : Post G Fo A H B A1 H1 σ sl1) : Post G Fo A H [] A1 H1 σ sl1 ∧ SR G Fo H1 σ sl1 A1 ∧ Same (vis H1 (U Fo B) A1) (vis H1 Fo A1) := by
  obtain ⟨S, ev, _⟩ := P.st.open' P.out
  exact ⟨⟨by rw [U_nil]; exact S, List.nodup_nil, (fun _ h => absurd h List.not_mem_nil), by rw [U_nil]; exact P.ext.trans ev, P.fo⟩, S, ev⟩
theorem Post.and (P : Post G Fo A H [] A1 H1 σ sl1) (P' : Post G Fo A1 H1 B A2 H2 σ sl2) : Post G Fo A H B A2 H2 σ sl2 := by
  have := Post.trans P (B2 := B) (A2 := A2) (H2 := H2) (sl2 := sl2) (by rw [U_nil]; exact P')
  rw [List.nil_append] at this
  exact this
theorem Post.settled (P : Post G Fo A H B A1 H1 σ sl1) (S : SR G Fo H1 σ sl2 A2) (ev : Same (vis H1 (U Fo B) A1) (vis H1 Fo A2)) : Post G Fo A H [] A2 H1 σ sl2 :=
  ⟨by rw [U_nil]; exact S, List.nodup_nil, (fun _ h => absurd h List.not_mem_nil), by rw [U_nil]; exact P.ext.trans ev, P.fo⟩
theorem RepV.mono {v : V} {d : D} (e : Same Hs Hs') (h : RepV G Hs H v d) : RepV G Hs' H v d := by
  cases d with
  | lst ds =>
    obtain ⟨a, vs, e1, e2, e3⟩ := h
    exact ⟨a, vs, e1, e2, e3.mono e⟩
  | tup ds => exact Rep.mono e h
  | _ => exact h
theorem RepVs.mono (e : Same Hs Hs') : ∀ {ds : List D} {vs : List V}, RepVs G Hs H vs ds → RepVs G Hs' H vs ds
  | [], _, h => h
  | d :: ds, vs, h => by
    obtain ⟨v, r, e1, e2, e3⟩ := h
    exact ⟨v, r, e1, e2.mono e, RepVs.mono e e3⟩
theorem KE.kt {Q : VK} {r : Rv} (k : KE G Fo A H σ Q (r, sl1)) (P : Post G Fo A H [] A1 H1 σ sl1) : Kt G Fo A1 H1 σ sl1 Q r := fun H' B v P' R => k H' A1 B v (P.and P') R
theorem KE.va {Q : VK} {d : D} (k : KE G Fo A H σ Q (.va d, sl1)) (P : Post G Fo A H [] A1 H1 σ sl1) {v : V} (h : Rep G (vis H1 Fo A1) v d) : Q v H1 := k H1 A1 [] v P ⟨rfl, by rw [U_nil]; exact h⟩
/-- one operand -/
theorem go1 {pa : PE} {m : D → Sls → Rs (Rv × Sls)} {Q : VK} {Q2 : V → Hp → Prop} (S : SR G Fo H σ sl A) (h : ((evE T cf pa sl).bind fun p => (Rs.of (view p.2 p.1)).bind fun x => m x p.2).sat (KE G Fo A H σ Q))
    (k : ∀ d sl' H1 A1 x, Post G Fo A H [] A1 H1 σ sl' → SR G Fo H1 σ sl' A1 → RepV G (vis H1 Fo A1) H1 x d → (m d sl').sat (KE G Fo A H σ Q) → Q2 x H1) : tE G T cf pa σ H Q2 := by
  refine ⟨Fo, A, sl, S, Rs.sat_mono (Rs.sat_bind.mp h) fun p h H1 A1 B1 x P1 R1 => ?_⟩
  obtain ⟨d, e, h⟩ := Rs.of_sat (Rs.sat_bind.mp h)
  obtain ⟨P, S', ev⟩ := P1.opn
  exact k d p.2 H1 A1 x P S' ((R1.view P1.st e).mono ev) h
theorem go1b {pa : PE} {m : D → Sls → Rs (Bool × Sls)} {Q : Bool → Hp → Prop} {Q2 : V → Hp → Prop} (S : SR G Fo H σ sl A) (h : ((evE T cf pa sl).bind fun p => (Rs.of (view p.2 p.1)).bind fun x => m x p.2).sat (KT G Fo A H σ Q))
    (k : ∀ d sl' H1 A1 x, Post G Fo A H [] A1 H1 σ sl' → SR G Fo H1 σ sl' A1 → RepV G (vis H1 Fo A1) H1 x d → (m d sl').sat (KT G Fo A H σ Q) → Q2 x H1) : tE G T cf pa σ H Q2 := by
  refine ⟨Fo, A, sl, S, Rs.sat_mono (Rs.sat_bind.mp h) fun p h H1 A1 B1 x P1 R1 => ?_⟩
  obtain ⟨d, e, h⟩ := Rs.of_sat (Rs.sat_bind.mp h)
  obtain ⟨P, S', ev⟩ := P1.opn
  exact k d p.2 H1 A1 x P S' ((R1.view P1.st e).mono ev) h
theorem RvR.same (e : Same Hs Hs') (h : RvR G Hs H σ B v r) : RvR G Hs' H σ B v r := RvR.mono e (fun _ _ => rfl) h
/-- two operands -/
theorem go2 {α : Type} {pa pb : PE} {m : Rv × Sls → Rv × Sls → Rs α} {K : α → Prop} {Q2 : V → V → Hp → Prop} (S : SR G Fo H σ sl A)
    (h : ((evE T cf pa sl).bind fun p => (evE T cf pb p.2).bind fun q => m p q).sat K)
    (k : ∀ p q H1 A1 B1 B2 x y, Post G Fo A H (B1 ++ B2) A1 H1 σ q.2 → RvR G (vis H1 (U Fo (B1 ++ B2)) A1) H1 σ B1 x p.1 → RvR G (vis H1 (U Fo (B1 ++ B2)) A1) H1 σ B2 y q.1 → (m p q).sat K → Q2 x y H1) :
    tE G T cf pa σ H fun x H1 => tE G T cf pb σ H1 fun y H2 => Q2 x y H2 := by
  refine ⟨Fo, A, sl, S, Rs.sat_mono (Rs.sat_bind.mp h) fun p h H1 A1 B1 x P1 R1 => ⟨U Fo B1, A1, p.2, P1.st, Rs.sat_mono (Rs.sat_bind.mp h) fun q h H2 A2 B2 y P2 R2 => ?_⟩⟩
  have R1' := R1.later P2
  rw [U_app] at R1' R2
  exact k p q H2 A2 B1 B2 x y (P1.trans P2) R1' R2 h
theorem go2v {α : Type} {pa pb : PE} {m : D → D → Sls → Rs α} {K : α → Prop} {Q2 : V → V → Hp → Prop} (S : SR G Fo H σ sl A)
    (h : ((evE T cf pa sl).bind fun p => (evE T cf pb p.2).bind fun q => (Rs.of (view q.2 p.1)).bind fun x => (Rs.of (view q.2 q.1)).bind fun y => m x y q.2).sat K)
    (k : ∀ d1 d2 sl' H1 A1 x y, Post G Fo A H [] A1 H1 σ sl' → SR G Fo H1 σ sl' A1 → RepV G (vis H1 Fo A1) H1 x d1 → RepV G (vis H1 Fo A1) H1 y d2 → (m d1 d2 sl').sat K → Q2 x y H1) :
    tE G T cf pa σ H fun x H1 => tE G T cf pb σ H1 fun y H2 => Q2 x y H2 := by
  refine go2 S h fun p q H1 A1 B1 B2 x y P R1 R2 h => ?_
  obtain ⟨d1, e1, h⟩ := Rs.of_sat (Rs.sat_bind.mp h)
  obtain ⟨d2, e2, h⟩ := Rs.of_sat (Rs.sat_bind.mp h)
  obtain ⟨P', S', ev⟩ := P.opn
  exact k d1 d2 q.2 H1 A1 x y P' S' ((R1.view P.st e1).mono ev) ((R2.view P.st e2).mono ev) h
theorem RvR.root (S : SR G Fo H σ sl A) (h : RvR G (vis H Fo A) H σ B v r) : True := trivial
/-! ### names, constants -/
theorem var_go {i : Nat} {Q : VK} (h : tE G T cf (.var i) σ H Q) : tVar i σ H Q := by
  obtain ⟨Fo, A, sl, S, h⟩ := h
  unfold evE at h
  cases e : sl[i]? with
  | none => rw [e] at h; exact h.elim
  | some x =>
    rw [e] at h
    cases x with
    | un => exact h.elim
    | va d =>
      obtain ⟨v, e1, e2⟩ := S.va i d e
      exact ⟨v, e1, KE.va (sl1 := sl) (d := d) h (Post.refl S) e2⟩
    | ow b p =>
      obtain ⟨a, e1, e2⟩ := S.ow i b p e
      exact ⟨.ref a, e1, (show KE G Fo A H σ Q (.s i, sl) from h) H A [] (.ref a) (Post.refl S) ⟨rfl, e1⟩⟩
theorem cst_go {p : PE} {d : D} {v : V} {Q : VK} (hp : ∀ sl, evE T cf p sl = .ok (.va d, sl)) (hr : ∀ Hs, Rep G Hs v d) (h : tE G T cf p σ H Q) : tC v σ H Q := by
  obtain ⟨Fo, A, sl, S, h⟩ := h
  rw [hp] at h
  exact KE.va (sl1 := sl) (d := d) h (Post.refl S) (hr _)
variable {X : Cx}
theorem re_var (i : Nat) {x : Str} {pos : Pos} (hN : X.N[i]? = some x := by rfl) (hv : Vis X.env.scope x := by first | exact Or.inl rfl | exact Or.inr (Or.inl rfl) | exact Or.inr (Or.inr rfl)) (hd : (x == ("__debug__" : Str)) = false := by decide)
    (hcd : (x == ("__classdict__" : Str)) = false := by decide) : RE G T cf X (.Name x pos) (.var i) := PE.imp (pe_var hN hv hd hcd) fun _ _ _ => var_go
theorem re_nvr {e : Expr} : RE G T cf X e .nvr := ⟨fun pins s σ H Q I h => by
  obtain ⟨Fo, A, sl, S, h⟩ := h
  rw [evE] at h
  exact h.elim⟩
theorem re_int {i j pos} : RE G T cf X (.Constant (.int i) j pos) (.cI i) := PE.imp pe_int fun _ _ _ => cst_go (d := .int i) (fun _ => by unfold evE; rfl) fun _ => rfl
theorem re_bl {i j pos} : RE G T cf X (.Constant (.bool i) j pos) (.cB i) := PE.imp pe_bl fun _ _ _ => cst_go (d := .bl i) (fun _ => by unfold evE; rfl) fun _ => rfl
theorem re_str {i j pos} : RE G T cf X (.Constant (.str i) j pos) (.cS i) := PE.imp pe_str fun _ _ _ => cst_go (d := .str i) (fun _ => by unfold evE; rfl) fun _ => rfl
theorem re_non {j pos} : RE G T cf X (.Constant .none j pos) .cN := PE.imp pe_non fun _ _ _ => cst_go (d := .non) (fun _ => by unfold evE; rfl) fun _ => rfl
theorem re_gI {x : Str} {i : Int} {u : Value} {pos : Pos} (hg : Gl X x) (hm : X.mg x = some u) (r : RelV (.int i) u) (hd : (x == ("__debug__" : Str)) = false := by decide) : RE G T cf X (.Name x pos) (.gI x i) :=
  PE.imp (pe_glob hg hm r hd) fun _ _ _ => cst_go (d := .int i) (fun _ => by unfold evE; rfl) fun _ => rfl
variable {a b c e : Expr} {es : List Expr} {pa pb pc : PE} {ps : PEs} {pos : Pos}
/-! ### operators -/
theorem bin_i {op : BOp} {Q : VK} (h : tE G T cf (.bin op pa pb) σ H Q) : tOp (rBin G.K op) (tE G T cf pa) (tE G T cf pb) σ H Q := by
  obtain ⟨Fo, A, sl, S, h⟩ := h
  unfold evE at h
  refine go2v (m := fun x y sl => (binD op x y).bind fun r => .ok (r, sl)) S h fun d1 d2 sl' H1 A1 x y P S' r1 r2 h => bin_go S' r1 r2 (Rs.sat_mono (Rs.sat_bind.mp h) fun r k => KE.kt k P)
theorem re_bin (op : BOp) (ha : RE G T cf X a pa) (hb : RE G T cf X b pb) (hK : G.K = X.K := by rfl) : RE G T cf X (.BinOp a (toOp op) b pos) (.bin op pa pb) :=
  PE.imp (pe_op (by have := opr_bin X op; rw [← hK] at this; exact this) ha hb) fun _ _ _ => bin_i
theorem cmp_i {op : COp} {Q : VK} (h : tE G T cf (.cmp op pa pb) σ H Q) : tOp (rCmp G.K op) (tE G T cf pa) (tE G T cf pb) σ H Q := by
  obtain ⟨Fo, A, sl, S, h⟩ := h
  unfold evE at h
  refine go2v (m := fun x y sl => (cmpD op x y).bind fun k => Rs.ok ((Rv.va (.bl k), sl) : Rv × Sls)) S h fun d1 d2 sl' H1 A1 x y P S' r1 r2 h => cmp_go r1 r2 (Rs.sat_bind.mp h) fun k z => KE.va (sl1 := sl') (d := .bl k) z P rfl
theorem Room.u65 {n : Nat} {A : Around} (r : Room n A) : A.units + 65 < cLine := by have := r.un; omega
theorem re_cmp (op : COp) (ha : RE G T cf X a pa) (hb : RE G T cf X b pb) (hu : X.A.units + 65 < cLine) (hm : behindInMarks (toCmp op) b = false := by first | exact nobehind _ (by decide) (by decide) | rfl) (hK : G.K = X.K := by rfl) : RE G T cf X (.Compare a [toCmp op] [b] pos) (.cmp op pa pb) :=
  PE.imp (pe_cmpR (by have := opr_cmp hu op; rw [← hK] at this; exact this) ha hb hm) fun _ _ _ => cmp_i
/-! ### tests -/
def PE.tst : PE → Bool
  | .not _ => true
  | .and _ => true
  | .or _ => true
  | _ => false
theorem evT_of {p : PE} (hp : p.tst = false) (sl : Sls) : evT T cf p sl = (evE T cf p sl).bind fun p => (Rs.of (view p.2 p.1)).bind fun x => (boolD x).bind fun k => .ok (k, p.2) := by
  cases p <;> first | (simp [PE.tst] at hp; done) | (unfold evT; rfl)
theorem bool_go {d : D} {α : Type} {f : Bool → Rs α} {K : α → Prop} (h : ((boolD d).bind f).sat K) : ∃ k, d = .bl k ∧ (f k).sat K := by
  cases d with
  | bl k => exact ⟨k, rfl, h⟩
  | _ => exact h.elim
theorem val_i {p : PE} (hp : p.tst = false) {Q : Bool → Hp → Prop} (h : tT G T cf p σ H Q) : tE G T cf p σ H fun x H1 => ∃ k, x = .bl k ∧ Q k H1 := by
  obtain ⟨Fo, A, sl, S, h⟩ := h
  rw [evT_of hp] at h
  refine go1b (m := fun x sl => (boolD x).bind fun k => .ok (k, sl)) S h fun d sl' H1 A1 x P S' r h => ?_
  obtain ⟨k, e, h2⟩ := bool_go h
  clear h
  subst e
  exact ⟨k, r, h2 H1 A1 P⟩
theorem rt_val {p : PE} (h : RE G T cf X e p) (hp : p.tst = false := by rfl) (he : ∀ whole, isTrue e X.env whole = (do let v ← whole; standAt e.pos; holding [v] (truthy v)) := by intro _; rfl) : RT G T cf X e p :=
  PT.imp (pt_val h he) fun _ _ _ q => val_i hp q
theorem rt_nvr {e : Expr} : RT G T cf X e .nvr := ⟨fun pins s σ H Q I h => by
  obtain ⟨Fo, A, sl, S, h⟩ := h
  rw [evT_of rfl, evE] at h
  exact h.elim⟩
theorem rt_cmp (op : COp) (ha : RE G T cf X a pa) (hb : RE G T cf X b pb) (hu : X.A.units + 65 < cLine) (hm : behindInMarks (toCmp op) b = false := by first | exact nobehind _ (by decide) (by decide) | rfl) (hK : G.K = X.K := by rfl) : RT G T cf X (.Compare a [toCmp op] [b] pos) (.cmp op pa pb) :=
  PT.imp (pt_cmpR (by have := opr_cmp hu op; rw [← hK] at this; exact this) ha hb hm) fun _ _ _ q => cmp_i (val_i rfl q)
theorem chain_i {op op' : COp} {Q : VK} (h : tE G T cf (.chain op op' pa pb pc) σ H Q) : tChain (rCmp G.K op) (rCmp G.K op') (tE G T cf pa) (tE G T cf pb) (tE G T cf pc) σ H Q := by
  obtain ⟨Fo, A, sl, S, h⟩ := h
  unfold evE at h
  refine go2 S h fun p q H1 A1 B1 B2 x y P R1 R2 h => ?_
  obtain ⟨d1, e1, h⟩ := Rs.of_sat (Rs.sat_bind.mp h)
  obtain ⟨d2, e2, h⟩ := Rs.of_sat (Rs.sat_bind.mp h)
  refine cmp_go (R1.view P.st e1) (R2.view P.st e2) (Rs.sat_bind.mp h) fun k h => ⟨k, rfl, ?_⟩
  cases k with
  | false =>
    rw [if_neg Bool.false_ne_true] at h ⊢
    exact KE.va (sl1 := q.2) (d := .bl false) h P.opn.1 rfl
  | true =>
    rw [if_pos rfl] at h ⊢
    refine ⟨U Fo (B1 ++ B2), A1, q.2, P.st, Rs.sat_mono (Rs.sat_bind.mp h) fun r h H2 A2 B3 z P3 R3 => ?_⟩
    obtain ⟨d2', e2', h⟩ := Rs.of_sat (Rs.sat_bind.mp h)
    obtain ⟨d3, e3, h⟩ := Rs.of_sat (Rs.sat_bind.mp h)
    have R2' : RvR G (vis H2 (U (U Fo (B1 ++ B2)) B3) A2) H2 σ B2 y q.1 := R2.mono P3.ext fun x hx => P3.fo x (.inr (List.mem_append_right _ hx))
    refine cmp_go (R2'.view P3.st e2') (R3.view P3.st e3) (Rs.sat_bind.mp h) fun k h => ?_
    exact KE.va (sl1 := r.2) (d := .bl k) h (P.trans P3).opn.1 rfl
theorem re_chain (op op' : COp) (ha : RE G T cf X a pa) (hb : RE G T cf X b pb) (hc : RE G T cf X c pc) (hu : X.A.units + 65 < cLine) (hm : lastMarks [toCmp op, toCmp op'] [b, c] = false := by with_unfolding_all rfl) (hK : G.K = X.K := by rfl) :
    RE G T cf X (.Compare a [toCmp op, toCmp op'] [b, c] pos) (.chain op op' pa pb pc) :=
  PE.imp (pe_chain (by have := opr_cmp hu op; rw [← hK] at this; exact this) (by have := opr_cmp hu op'; rw [← hK] at this; exact this) ha hb hc hm) fun _ _ _ => chain_i
theorem rt_chain (op op' : COp) (ha : RE G T cf X a pa) (hb : RE G T cf X b pb) (hc : RE G T cf X c pc) (hu : X.A.units + 65 < cLine) (hm : lastMarks [toCmp op, toCmp op'] [b, c] = false := by with_unfolding_all rfl) (hK : G.K = X.K := by rfl) :
    RT G T cf X (.Compare a [toCmp op, toCmp op'] [b, c] pos) (.chain op op' pa pb pc) :=
  PT.imp (pt_chain (by have := opr_cmp hu op; rw [← hK] at this; exact this) (by have := opr_cmp hu op'; rw [← hK] at this; exact this) ha hb hc hm) fun _ _ _ q => chain_i (val_i rfl q)
theorem isN_i {Q : VK} (h : tE G T cf (.isN pa) σ H Q) : tIsN (tE G T cf pa) σ H Q := by
  obtain ⟨Fo, A, sl, S, h⟩ := h
  unfold evE at h
  refine go1 (m := fun x sl => .ok (.va (.bl (nonD x)), sl)) S h fun d sl' H1 A1 x P S' r h => ?_
  have e : decide (x = .non) = nonD d := by
    cases d <;> first | (obtain ⟨_, _, rfl, _⟩ := r; rfl) | (obtain ⟨_, _, _, rfl, _⟩ := r; rfl) | (obtain ⟨_, rfl, _⟩ := r; rfl) | (rw [show x = _ from r]; rfl)
  rw [e]
  exact KE.va (sl1 := sl') (d := .bl _) h P rfl
theorem notN_i {Q : VK} (h : tE G T cf (.notN pa) σ H Q) : tNotN (tE G T cf pa) σ H Q := by
  obtain ⟨Fo, A, sl, S, h⟩ := h
  unfold evE at h
  refine go1 (m := fun x sl => .ok (.va (.bl (!nonD x)), sl)) S h fun d sl' H1 A1 x P S' r h => ?_
  have e : (!decide (x = .non)) = !nonD d := by
    cases d <;> first | (obtain ⟨_, _, rfl, _⟩ := r; rfl) | (obtain ⟨_, _, _, rfl, _⟩ := r; rfl) | (obtain ⟨_, rfl, _⟩ := r; rfl) | (rw [show x = _ from r]; rfl)
  rw [e]
  exact KE.va (sl1 := sl') (d := .bl _) h P rfl
theorem re_isN {j pos'} (ha : RE G T cf X a pa) : RE G T cf X (.Compare a [.Is] [.Constant .none j pos'] pos) (.isN pa) := PE.imp (pe_cmp (pc_isN ha)) fun _ _ _ => isN_i
theorem re_notN {j pos'} (ha : RE G T cf X a pa) : RE G T cf X (.Compare a [.IsNot] [.Constant .none j pos'] pos) (.notN pa) := PE.imp (pe_cmp (pc_notN ha)) fun _ _ _ => notN_i
theorem rt_isN {j pos'} (ha : RE G T cf X a pa) : RT G T cf X (.Compare a [.Is] [.Constant .none j pos'] pos) (.isN pa) := PT.imp (pt_cmp (pc_isN ha)) fun _ _ _ q => isN_i (val_i rfl q)
theorem rt_notN {j pos'} (ha : RE G T cf X a pa) : RT G T cf X (.Compare a [.IsNot] [.Constant .none j pos'] pos) (.notN pa) := PT.imp (pt_cmp (pc_notN ha)) fun _ _ _ q => notN_i (val_i rfl q)
theorem neg_i {Q : VK} (h : tE G T cf (.neg pa) σ H Q) : tUn (rU fun i => .int (-i)) (tE G T cf pa) σ H Q := by
  obtain ⟨Fo, A, sl, S, h⟩ := h
  unfold evE at h
  refine go1 (m := fun x sl => (intD x).bind fun i => .ok (.va (.int (-i)), sl)) S h fun d sl' H1 A1 x P S' r h => ?_
  cases d with
  | int i => exact ⟨i, r, KE.va (sl1 := sl') (d := .int (-i)) h P rfl⟩
  | _ => exact h.elim
theorem re_neg (ha : RE G T cf X a pa) : RE G T cf X (.UnaryOp .USub a pos) (.neg pa) := PE.imp (pe_un un_neg ha) fun _ _ _ => neg_i
theorem not_i {Q : VK} (h : tE G T cf (.not pa) σ H Q) : tNotV (tE G T cf pa) σ H Q := by
  obtain ⟨Fo, A, sl, S, h⟩ := h
  unfold evE at h
  refine go1 (m := fun x sl => (boolD x).bind fun k => .ok (.va (.bl (!k)), sl)) S h fun d sl' H1 A1 x P S' r h => ?_
  obtain ⟨k, e, h2⟩ := bool_go h
  clear h
  subst e
  exact ⟨k, r, KE.va (sl1 := sl') (d := .bl (!k)) h2 P rfl⟩
theorem re_not (ha : RE G T cf X a pa) : RE G T cf X (.UnaryOp .Not a pos) (.not pa) := PE.imp (pe_not ha) fun _ _ _ => not_i
theorem rt_not (ha : RT G T cf X a pa) : RT G T cf X (.UnaryOp .Not a pos) (.not pa) := PT.imp (pt_not ha) fun σ H Q h => by
  obtain ⟨Fo, A, sl, S, h⟩ := h
  unfold evT at h
  exact ⟨Fo, A, sl, S, Rs.sat_mono (Rs.sat_bind.mp h) fun p h => h⟩
theorem KT.and {Q : Bool → Hp → Prop} {q : Bool × Sls} (P : Post G Fo A H [] A1 H1 σ sl1) (k : KT G Fo A H σ Q q) : KT G Fo A1 H1 σ Q q := fun H2 A2 P2 => k H2 A2 (P.and P2)
theorem KE.and {Q : VK} {q : Rv × Sls} (P : Post G Fo A H [] A1 H1 σ sl1) (k : KE G Fo A H σ Q q) : KE G Fo A1 H1 σ Q q := fun H2 A2 B v P2 R2 => k H2 A2 B v (P.and P2) R2
theorem Post.sr (P : Post G Fo A H [] A1 H1 σ sl1) : SR G Fo H1 σ sl1 A1 := by
  have := P.st
  rw [U_nil] at this
  exact this
theorem rt_and1 (ha : RT G T cf X a pa) : L2.PW X (.BoolOp .And [a] pos) (tT G T cf (.and (.cons pa .nil))) := ⟨fun wh pins s σ H Q I h => (pw_and1 ha).run wh pins s σ H Q I (by
  obtain ⟨Fo, A, sl, S, h⟩ := h
  unfold evT evAndT at h
  exact ⟨Fo, A, sl, S, h⟩)⟩
theorem rt_or1 (ha : RT G T cf X a pa) : L2.PW X (.BoolOp .Or [a] pos) (tT G T cf (.or (.cons pa .nil))) := ⟨fun wh pins s σ H Q I h => (pw_or1 ha).run wh pins s σ H Q I (by
  obtain ⟨Fo, A, sl, S, h⟩ := h
  unfold evT evOrT at h
  exact ⟨Fo, A, sl, S, h⟩)⟩
theorem rt_and {rest : List Expr} {p2 : PE} {ps : PEs} (ha : RT G T cf X a pa) (hb : L2.PW X (.BoolOp .And (b :: rest) pos) (tT G T cf (.and (.cons p2 ps)))) : L2.PW X (.BoolOp .And (a :: b :: rest) pos) (tT G T cf (.and (.cons pa (.cons p2 ps)))) :=
  ⟨fun wh pins s σ H Q I h => (pw_and ha hb).run wh pins s σ H Q I (by
    obtain ⟨Fo, A, sl, S, h⟩ := h
    unfold evT evAndT at h
    refine ⟨Fo, A, sl, S, Rs.sat_mono (Rs.sat_bind.mp h) fun p h H1 A1 P => ?_⟩
    by_cases z : p.1 = true
    · rw [if_pos z] at h ⊢
      exact ⟨Fo, A1, p.2, P.sr, by unfold evT; exact Rs.sat_mono h fun q k => k.and P⟩
    · rw [if_neg z] at h ⊢
      exact h H1 A1 P)⟩
theorem rt_or {rest : List Expr} {p2 : PE} {ps : PEs} (ha : RT G T cf X a pa) (hb : L2.PW X (.BoolOp .Or (b :: rest) pos) (tT G T cf (.or (.cons p2 ps)))) : L2.PW X (.BoolOp .Or (a :: b :: rest) pos) (tT G T cf (.or (.cons pa (.cons p2 ps)))) :=
  ⟨fun wh pins s σ H Q I h => (pw_or ha hb).run wh pins s σ H Q I (by
    obtain ⟨Fo, A, sl, S, h⟩ := h
    unfold evT evOrT at h
    refine ⟨Fo, A, sl, S, Rs.sat_mono (Rs.sat_bind.mp h) fun p h H1 A1 P => ?_⟩
    by_cases z : p.1 = true
    · rw [if_pos z] at h ⊢
      exact h H1 A1 P
    · rw [if_neg z] at h ⊢
      exact ⟨Fo, A1, p.2, P.sr, by unfold evT; exact Rs.sat_mono h fun q k => k.and P⟩)⟩
theorem re_and1 (ha : RE G T cf X a pa) : RE G T cf X (.BoolOp .And [a] pos) (.and (.cons pa .nil)) := PE.imp (pe_one ha) fun σ H Q h => by
  obtain ⟨Fo, A, sl, S, h⟩ := h
  unfold evE evAnd at h
  exact ⟨Fo, A, sl, S, h⟩
theorem re_or1 (ha : RE G T cf X a pa) : RE G T cf X (.BoolOp .Or [a] pos) (.or (.cons pa .nil)) := PE.imp (pe_one ha) fun σ H Q h => by
  obtain ⟨Fo, A, sl, S, h⟩ := h
  unfold evE evOr at h
  exact ⟨Fo, A, sl, S, h⟩
theorem re_and {rest : List Expr} {p2 : PE} {ps : PEs} (ha : RE G T cf X a pa) (hb : RE G T cf X (.BoolOp .And (b :: rest) pos) (.and (.cons p2 ps))) : RE G T cf X (.BoolOp .And (a :: b :: rest) pos) (.and (.cons pa (.cons p2 ps))) :=
  PE.imp (pe_and ha hb) fun σ H Q h => by
    obtain ⟨Fo, A, sl, S, h⟩ := h
    unfold evE evAnd at h
    refine go1 (m := fun x sl => (boolD x).bind fun k => if k = true then evAnd T cf (.cons p2 ps) sl else .ok (.va (.bl false), sl)) S h fun d sl' H1 A1 x P S' r h => ?_
    obtain ⟨k, e, h2⟩ := bool_go h
    clear h
    subst e
    refine ⟨k, r, ?_⟩
    by_cases z : k = true
    · rw [if_pos z] at h2 ⊢
      exact ⟨Fo, A1, sl', S', by unfold evE; exact Rs.sat_mono h2 fun q k => k.and P⟩
    · rw [if_neg z] at h2 ⊢
      exact KE.va (sl1 := sl') (d := .bl false) h2 P rfl
theorem re_or {rest : List Expr} {p2 : PE} {ps : PEs} (ha : RE G T cf X a pa) (hb : RE G T cf X (.BoolOp .Or (b :: rest) pos) (.or (.cons p2 ps))) : RE G T cf X (.BoolOp .Or (a :: b :: rest) pos) (.or (.cons pa (.cons p2 ps))) :=
  PE.imp (pe_or ha hb) fun σ H Q h => by
    obtain ⟨Fo, A, sl, S, h⟩ := h
    unfold evE evOr at h
    refine go1 (m := fun x sl => (boolD x).bind fun k => if k = true then .ok (.va (.bl true), sl) else evOr T cf (.cons p2 ps) sl) S h fun d sl' H1 A1 x P S' r h => ?_
    obtain ⟨k, e, h2⟩ := bool_go h
    clear h
    subst e
    refine ⟨k, r, ?_⟩
    by_cases z : k = true
    · rw [if_pos z] at h2 ⊢
      exact KE.va (sl1 := sl') (d := .bl true) h2 P rfl
    · rw [if_neg z] at h2 ⊢
      exact ⟨Fo, A1, sl', S', by unfold evE; exact Rs.sat_mono h2 fun q k => k.and P⟩
theorem re_ife (hc : RT G T cf X c pc) (ha : RE G T cf X a pa) (hb : RE G T cf X b pb) : RE G T cf X (.IfExp c a b pos) (.ife pc pa pb) :=
  PE.imp (pe_ifExp hc ha hb) fun σ H Q h => by
    obtain ⟨Fo, A, sl, S, h⟩ := h
    unfold evE at h
    refine ⟨Fo, A, sl, S, Rs.sat_mono (Rs.sat_bind.mp h) fun p h H1 A1 P => ?_⟩
    by_cases z : p.1 = true
    · rw [if_pos z] at h ⊢
      exact ⟨Fo, A1, p.2, P.sr, Rs.sat_mono h fun q k => k.and P⟩
    · rw [if_neg z] at h ⊢
      exact ⟨Fo, A1, p.2, P.sr, Rs.sat_mono h fun q k => k.and P⟩
end
end Pf

/-! Pf8: tuples, lists, items, slices, fields, calls, built-in functions, methods of lists -/
namespace Pf
open PySem L2
section
variable {G : Gx} {T : Tab} {cf : CF} {Fo : Fx} {A A1 A2 A' : Nat → List Addr} {H H1 H2 H' Hs Hs' : Hp} {σ : L2.St} {sl sl1 sl2 sl' : Sls} {B B1 B2 B' : List Addr} {v : V} {r : Rv} {vs : List V} {rs : List Rv}
variable {X : Cx} {a b c e o : Expr} {es : List Expr} {pa pb pc : PE} {ps : PEs} {pos p apos : Pos}
/-! ### arguments -/
theorem ra_nil : RA G T cf X [] .nil := PA.imp pa_nil fun σ H Q h => by
  obtain ⟨Fo, A, sl, S, h⟩ := h
  unfold evEs at h
  exact (show KA G Fo A H σ Q ([], sl) from h) H A [] [] (Post.refl S) ⟨rfl, rfl⟩
theorem RvRs.later (b : Post G (U Fo B) A1 H1 B2 A2 H2 σ sl2) (h : RvRs G (vis H1 (U Fo B) A1) H1 σ B vs rs) : RvRs G (vis H2 (U (U Fo B) B2) A2) H2 σ B vs rs := RvRs.mono b.ext (fun x hx => b.fo x (.inr hx)) h
theorem ra_cons (ha : RE G T cf X e pa) (hr : RA G T cf X es ps) (hs : starEach (e :: es) X.env = (false, eval e X.env) :: starEach es X.env := by rfl) : RA G T cf X (e :: es) (.cons pa ps) :=
  PA.imp (pa_cons ha hr hs) fun σ H Q h => by
    obtain ⟨Fo, A, sl, S, h⟩ := h
    unfold evEs at h
    refine ⟨Fo, A, sl, S, Rs.sat_mono (Rs.sat_bind.mp h) fun p h H1 A1 B1 x P1 R1 => ⟨U Fo B1, A1, p.2, P1.st, Rs.sat_mono (Rs.sat_bind.mp h) fun q h H2 A2 B2 xs P2 R2 => ?_⟩⟩
    have R1' := R1.later P2
    rw [U_app] at R1' R2
    exact (show KA G Fo A H σ Q (p.1 :: q.1, q.2) from h) H2 A2 (B1 ++ B2) (x :: xs) (P1.trans P2) ⟨B1, B2, x, xs, rfl, rfl, R1', R2⟩
theorem settle_go {Q : List D × Sls → Prop} (P : Post G Fo A H B A1 H1 σ sl1) (R : RvRs G (vis H1 (U Fo B) A1) H1 σ B vs rs) (h : (settleR sl1 rs).sat Q) :
    ∃ ds sl2 A2, Post G Fo A H [] A2 H1 σ sl2 ∧ SR G Fo H1 σ sl2 A2 ∧ Reps G (vis H1 Fo A2) vs ds ∧ Q (ds, sl2) := by
  cases e : settleR sl1 rs with
  | stuck => rw [e] at h; exact h.elim
  | ok z =>
    rw [e] at h
    obtain ⟨A2, S2, ev, rp, _, _⟩ := R.settles P.st P.nd P.out e
    exact ⟨z.1, z.2, A2, P.settled S2 ev, S2, rp, h⟩
theorem re_tup {x1} (h : RA G T cf X es ps) : RE G T cf X (.Tuple es x1 pos) (.tup ps) := PE.imp (pe_tup h) fun σ H Q h => by
  obtain ⟨Fo, A, sl, S, h⟩ := h
  unfold evE at h
  refine ⟨Fo, A, sl, S, Rs.sat_mono (Rs.sat_bind.mp h) fun p h H1 A1 B xs P R => ?_⟩
  obtain ⟨ds, sl2, A2, P2, S2, rp, h⟩ := settle_go P R (Rs.sat_bind.mp h)
  obtain ⟨z, h⟩ := if_sat h
  refine ⟨by rw [rp.len]; exact z, fun q hq => ?_⟩
  obtain ⟨P3, R3⟩ := out_tup S2 hq rp
  exact KE.kt (sl1 := sl2) h P2 _ _ _ P3 R3
theorem re_lst (h : RA G T cf X es ps) : RE G T cf X (.List es pos) (.lst ps) := PE.imp (pe_lst h) fun σ H Q h => by
  obtain ⟨Fo, A, sl, S, h⟩ := h
  unfold evE at h
  refine ⟨Fo, A, sl, S, Rs.sat_mono (Rs.sat_bind.mp h) fun p h H1 A1 B xs P R => ?_⟩
  obtain ⟨ds, sl2, A2, P2, S2, rp, h⟩ := settle_go P R (Rs.sat_bind.mp h)
  obtain ⟨z, h⟩ := if_sat h
  refine ⟨by rw [rp.len]; exact z, fun q hq => ?_⟩
  obtain ⟨P3, R3⟩ := out_lst S2 hq rp
  exact KE.kt (sl1 := sl2) h P2 _ _ _ P3 R3
/-! ### items, slices -/
theorem re_ix (ha : RE G T cf X a pa) (hb : RE G T cf X b pb) (hs : PlainIx b := by intro _ _; rfl) (hK : G.K = X.K := by rfl) : RE G T cf X (.Subscript a b pos) (.ix pa pb) :=
  PE.imp (pe_ix (by have := ixr (X := X); rw [← hK] at this; exact this) ha hb hs) fun σ H Q h => by
    obtain ⟨Fo, A, sl, S, h⟩ := h
    unfold evE at h
    exact go2v (m := fun x y sl => (ixD x y).bind fun d => Rs.ok ((Rv.va d, sl) : Rv × Sls)) S h fun d1 d2 sl' H1 A1 x y P S' r1 r2 h => ix_go S' r1 r2 (Rs.sat_mono (Rs.sat_bind.mp h) fun d k => KE.kt k P)
variable (G T cf) in
def tO (po : POpt) : TO := fun σ H Q => ∃ Fo A sl, SR G Fo H σ sl A ∧ (evO T cf po sl).sat fun q => ∀ H' A', Post G Fo A H [] A' H' σ q.2 → Q q.1 H'
theorem ro_none : L2.PO X none (tO G T cf .none) := ⟨fun pins s σ H Q I h => po_none.run pins s σ H Q I (by
  obtain ⟨Fo, A, sl, S, h⟩ := h
  unfold evO at h
  exact (show ∀ H' A', Post G Fo A H [] A' H' σ sl → Q none H' from h) H A (Post.refl S))⟩
theorem ro_some (he : RE G T cf X e pa) : L2.PO X (some e) (tO G T cf (.some pa)) := ⟨fun pins s σ H Q I h => (po_some he).run pins s σ H Q I (by
  obtain ⟨Fo, A, sl, S, h⟩ := h
  unfold evO at h
  refine ⟨Fo, A, sl, S, Rs.sat_mono (Rs.sat_bind.mp h) fun p h H1 A1 B x P R => ?_⟩
  obtain ⟨d, e, h⟩ := Rs.of_sat (Rs.sat_bind.mp h)
  have rv := R.view P.st e
  cases d with
  | int i => exact ⟨i, rv, (show ∀ H' A', Post G Fo A H [] A' H' σ p.2 → Q (some i) H' from h) H1 A1 P.opn.1⟩
  | _ => exact h.elim)⟩
theorem re_sl {lo hi : Option Expr} {pl ph : POpt} {p2 : Pos} (ha : RE G T cf X a pa) (hl : L2.PO X lo (tO G T cf pl)) (hh : L2.PO X hi (tO G T cf ph)) (hK : G.K = X.K := by rfl) : RE G T cf X (.Subscript a (.Slice lo hi none p2) pos) (.sl pa pl ph) :=
  PE.imp (pe_slice (by have := slr (X := X); rw [← hK] at this; exact this) ha hl hh) fun σ H Q h => by
    obtain ⟨Fo, A, sl, S, h⟩ := h
    unfold evE at h
    refine ⟨Fo, A, sl, S, Rs.sat_mono (Rs.sat_bind.mp h) fun p h H1 A1 B1 x P1 R1 => ⟨U Fo B1, A1, p.2, P1.st, Rs.sat_mono (Rs.sat_bind.mp h) fun l h H2 A2 P2 => ⟨U Fo B1, A2, l.2, P2.sr, Rs.sat_mono (Rs.sat_bind.mp h) fun u h H3 A3 P3 => ?_⟩⟩⟩
    have P23 := P2.and P3
    have R1' := R1.later P23
    rw [U_nil] at R1'
    have P := P1.trans P23
    rw [List.append_nil] at P
    obtain ⟨d, e, h⟩ := Rs.of_sat (Rs.sat_bind.mp h)
    obtain ⟨P', S', ev⟩ := P.opn
    exact sl_go S' ((R1'.view P.st e).mono ev) (Rs.sat_mono (Rs.sat_bind.mp h) fun d k => KE.kt k P')
/-! ### fields, calls -/
theorem names_none {α β : Type} : ∀ {fs : List (Nat × α)} {gs : List (Str × β)} {m : Nat}, gs.map (·.1) = fs.map (fun p => G.FN p.1) → fs.lookup m = none → gs.lookup (G.FN m) = none
  | [], [], _, _, _ => rfl
  | [], _ :: _, _, e, _ => by simp at e
  | _ :: _, [], _, e, _ => by simp at e
  | (f, x) :: fs, (g, y) :: gs, m, e, h => by
    simp only [List.map_cons, List.cons.injEq] at e
    have e1 : g = G.FN f := e.1
    subst e1
    by_cases q : m = f
    · subst q; simp at h
    · have q1 : (m == f) = false := by simpa using q
      have q2 : (G.FN m == G.FN f) = false := by
        have : G.FN m ≠ G.FN f := fun z => q (G.fi _ _ z)
        simpa using this
      rw [List.lookup_cons, q1] at h
      rw [List.lookup_cons, q2]
      exact names_none e.2 h
theorem cls_go {ci m : Nat} {P : Unit → Prop} (S : SR G Fo H σ sl A) (R : RvR G (vis H Fo A) H σ B v r) (h : (clsOf sl ci m r).sat P) : ∃ a dx fs, v = .ref a ∧ H a = some (.ins (G.CA ci) dx fs) ∧ fs.lookup (G.FN m) = none ∧ P () := by
  cases r with
  | fr p => exact h.elim
  | va d =>
    cases d <;> first | exact (show False from h).elim | skip
    rename_i c' fs
    obtain ⟨⟨z1, z2⟩, h2⟩ := if_sat h
    clear h
    subst z1
    obtain ⟨_, a, dx, gs, e1, e2, e3⟩ := R
    exact ⟨a, dx, gs, e1, hide_sub _ _ e2, names_none e3.names z2, h2⟩
  | s i =>
    unfold clsOf at h
    cases e : sl[i]? with
    | none => simp only [e] at h; exact h.elim
    | some x =>
      simp only [e] at h
      cases x <;> first | exact (show False from h).elim | skip
      rename_i b p
      cases p <;> first | exact (show False from h).elim | skip
      rename_i c' fs
      obtain ⟨⟨z1, z2⟩, h2⟩ := if_sat h
      clear h
      subst z1
      obtain ⟨a, w1, dx, gs, B', w2, w3, w4⟩ := S.ow i b _ e
      have w5 := R.2
      rw [w1] at w5
      have w5 : v = .ref a := by injection w5 with w5; injection w5 with w5; exact w5.symm
      exact ⟨a, dx, gs, w5, w3, names_none w4.names z2, h2⟩
theorem fld_go {ci f : Nat} {P : Rv → Prop} (S : SR G Fo H σ sl A) (R : RvR G (vis H Fo A) H σ B v r) (h : (fldD sl ci f r).sat P) :
    ∃ a dx fs u d, v = .ref a ∧ H a = some (.ins (G.CA ci) dx fs) ∧ fs.lookup (G.FN f) = some u ∧ Rep G (vis H Fo A) u d ∧ P (.va d) := by
  cases r with
  | fr p => exact h.elim
  | va d =>
    cases d <;> first | exact (show False from h).elim | skip
    rename_i c' fs
    obtain ⟨z1, h2⟩ := if_satR h
    clear h
    subst z1
    obtain ⟨d, z2, h⟩ := Rs.of_sat (Rs.sat_bind.mp h2)
    obtain ⟨_, a, dx, gs, e1, e2, e3⟩ := R
    obtain ⟨u, w1, w2⟩ := e3.look z2
    exact ⟨a, dx, gs, u, d, e1, hide_sub _ _ e2, w1, w2, h⟩
  | s i =>
    unfold fldD at h
    cases e : sl[i]? with
    | none => simp only [e] at h; exact h.elim
    | some x =>
      simp only [e] at h
      cases x <;> first | exact (show False from h).elim | skip
      rename_i b p
      cases p <;> first | exact (show False from h).elim | skip
      rename_i c' fs
      obtain ⟨z1, h2⟩ := if_satR h
      clear h
      subst z1
      obtain ⟨d, z2, h⟩ := Rs.of_sat (Rs.sat_bind.mp h2)
      cases d with
      | ol _ => exact h.elim
      | fz d =>
        obtain ⟨a, w1, dx, gs, B', w2, w3, w4⟩ := S.ow i b _ e
        have w5 := R.2
        rw [w1] at w5
        have w5 : v = .ref a := by injection w5 with w5; injection w5 with w5; exact w5.symm
        obtain ⟨u, x1, x2⟩ := w4.look z2
        exact ⟨a, dx, gs, u, d, w5, w3, x1, x2, h⟩
theorem re_fld {ci f : Nat} {fn : Str} (he : RE G T cf X e pa) (hc : Cls X.K (G.CA ci)) (hn : NoAttr X.K (G.CA ci) fn) (hf : G.FN f = fn) (hb : attributeBase e fn X.env (eval e X.env) = eval e X.env := by rfl) : RE G T cf X (.Attribute e fn pos) (.fld pa ci f) :=
  PE.imp (pe_fld he hb) fun σ H Q h => by
    obtain ⟨Fo, A, sl, S, h⟩ := h
    unfold evE at h
    refine ⟨Fo, A, sl, S, Rs.sat_mono (Rs.sat_bind.mp h) fun p h H1 A1 B x P R => ?_⟩
    obtain ⟨a, dx, fs, u, d, e1, e2, e3, e4, h⟩ := fld_go P.st R (Rs.sat_bind.mp h)
    obtain ⟨P', S', ev⟩ := P.opn
    rw [hf] at e3
    exact ⟨a, _, dx, fs, u, e1, e2, hc, hn, e3, KE.va (sl1 := p.2) h P' (e4.mono ev)⟩
section
variable {k : Nat} {fa : Addr} {fd : FuncData} {xs : List Str} {x m : Str} {f : Nat}
theorem KE.call {Q : VK} (P : Post G Fo A H B A1 H1 σ sl1) {q : Rv × Sls} (k : KE G Fo A H σ Q q) : Kn G Fo B A1 H1 σ Q q := fun H2 A2 B2 v st rv => k H2 A2 B2 v (P.step st) rv
theorem call_i {Q : VK} (h : tE G T cf (.call f ps) σ H Q) : tCall (spI G cf (ioOf T f) f) [] E0 (tAs G T cf ps) σ H Q := by
  obtain ⟨Fo, A, sl, S, h⟩ := h
  unfold evE at h
  refine ⟨Fo, A, sl, S, Rs.sat_mono (Rs.sat_bind.mp h) fun p h H1 A1 B vs P R => ?_⟩
  show spI G cf (ioOf T f) f (vs ++ []) H1 Q E0
  rw [List.append_nil]
  exact call_go P.st P.nd P.out R (Rs.sat_mono h fun q k => k.call P)
theorem re_call (F : FnOk X.prog X.w X.K X.mg X.base CX0 k fa fd xs (spI G cf (ioOf T f) f)) (hr : Room k X.A) (hg : Gl X x) (hm : X.mg x = some (.ref fa)) (hk : PySem.W.keepIn X.K (.ref fa) = true) (hb : Binds X.K fd xs [])
    (ha : RA G T cf X (e :: es) ps) (hdb : (x == ("__debug__" : Str)) = false := by decide) (he : starEach (e :: es) X.env = (false, eval e X.env) :: starEach es X.env := by rfl) (hpl : (backTo pos (starEach es X.env)).any (·.1) = false := by rfl) :
    RE G T cf X (.Call (.Name x p) (e :: es) [] pos) (.call f ps) := PE.imp (pe_call F hr hg hm hk hb .nil pass0 ha hdb he hpl) fun _ _ _ => call_i
theorem make_i {ci : Nat} {Q : VK} (h : tE G T cf (.make ci f ps) σ H Q) : tMake (G.CA ci) (spI G cf (ioOf T f) f) [] E0 (tAs G T cf ps) σ H Q := by
  obtain ⟨Fo, A, sl, S, h⟩ := h
  unfold evE at h
  refine ⟨Fo, A, sl, S, Rs.sat_mono (Rs.sat_bind.mp h) fun p h H1 A1 B vs P R x dx hx hdx hne => ?_⟩
  show spI G cf (ioOf T f) f (.ref x :: (vs ++ [])) _ _ E0
  rw [List.append_nil]
  exact make_go P.st P.nd P.out R (Rs.sat_mono h fun q k => k.call P) hx hdx hne
theorem re_make {ci : Nat} (M : Mk X.K (G.CA ci) fa) (F : FnOk X.prog X.w X.K X.mg X.base CX0 k fa fd xs (spI G cf (ioOf T f) f)) (hr : Room (k + 1) X.A) (hg : Gl X x) (hm : X.mg x = some (.ref (G.CA ci))) (hb : Binds X.K fd xs [])
    (ha : RA G T cf X (e :: es) ps) (hdb : (x == ("__debug__" : Str)) = false := by decide) (he : starEach (e :: es) X.env = (false, eval e X.env) :: starEach es X.env := by rfl) (hpl : (backTo pos (starEach es X.env)).any (·.1) = false := by rfl) :
    RE G T cf X (.Call (.Name x p) (e :: es) [] pos) (.make ci f ps) := PE.imp (pe_make M F hr hg hm hb .nil pass0 ha hdb he hpl) fun _ _ _ => make_i
theorem meth_i {ci mi : Nat} (hf : G.FN mi = m) {Q : VK} (h : tE G T cf (.meth pa ci mi f ps) σ H Q) : tMeth (G.CA ci) m (spI G cf (ioOf T f) f) [] E0 (tE G T cf pa) (tAs G T cf ps) σ H Q := by
  obtain ⟨Fo, A, sl, S, h⟩ := h
  unfold evE at h
  refine ⟨Fo, A, sl, S, Rs.sat_mono (Rs.sat_bind.mp h) fun o h H1 A1 B1 x P1 R1 => ?_⟩
  obtain ⟨a, dx, fs, e1, e2, e3, h⟩ := cls_go P1.st R1 (Rs.sat_bind.mp h)
  rw [hf] at e3
  refine ⟨a, dx, fs, e1, e2, e3, U Fo B1, A1, o.2, P1.st, Rs.sat_mono (Rs.sat_bind.mp h) fun p h H2 A2 B2 vs P2 R2 => ?_⟩
  have R1' := R1.later P2
  rw [U_app] at R1' R2
  show spI G cf (ioOf T f) f (x :: (vs ++ [])) H2 Q E0
  rw [List.append_nil]
  have P := P1.trans P2
  exact call_go (vs := x :: vs) (rs := o.1 :: p.1) P.st P.nd P.out ⟨B1, B2, x, vs, rfl, rfl, R1', R2⟩ (Rs.sat_mono h fun q k => k.call P)
theorem re_meth {ci mi : Nat} {pl : Sem Bool} (hf : G.FN mi = m) (ho : RE G T cf X o pa) (hc : Cls X.K (G.CA ci)) (hm : Meth X.K (G.CA ci) m fa) (F : FnOk X.prog X.w X.K X.mg X.base CX0 k fa fd xs (spI G cf (ioOf T f) f)) (hr : Room k X.A) (hb : Binds X.K fd xs [])
    (ha : RA G T cf X (e :: es) ps) (hst : starEach (e :: es) X.env = (false, eval e X.env) :: starEach es X.env := by rfl) (hpl : (backTo pos (starEach es X.env)).any (·.1) = false := by rfl)
    (ht : eval (.Call (.Attribute o m apos) (e :: es) [] pos) X.env = (do
      let ov ← eval o X.env
      standAt apos.atName
      let (f, first) ← holding [ov] (getMethod ov m pl)
      callWith pos f first (backTo pos (starEach (e :: es) X.env)) (backToKw pos (keywordEach [] X.env))) := by rfl) : RE G T cf X (.Call (.Attribute o m apos) (e :: es) [] pos) (.meth pa ci mi f ps) :=
  PE.imp (pe_meth ho hc hm F hr hb .nil pass0 ha hst hpl ht) fun _ _ _ => meth_i hf
theorem re_meth0 {ci mi : Nat} {pl : Sem Bool} (hf : G.FN mi = m) (ho : RE G T cf X o pa) (hc : Cls X.K (G.CA ci)) (hm : Meth X.K (G.CA ci) m fa) (F : FnOk X.prog X.w X.K X.mg X.base CX0 k fa fd xs (spI G cf (ioOf T f) f)) (hr : Room k X.A) (hb : Binds X.K fd xs [])
    (ht : eval (.Call (.Attribute o m apos) [] [] pos) X.env = (do
      let ov ← eval o X.env
      standAt apos.atName
      let (f, first) ← holding [ov] (getMethod ov m pl)
      callWith pos f first (backTo pos (starEach [] X.env)) (backToKw pos (keywordEach [] X.env))) := by rfl) : RE G T cf X (.Call (.Attribute o m apos) [] [] pos) (.meth pa ci mi f .nil) :=
  PE.imp (pe_meth0 ho hc hm F hr hb .nil pass0 ht) fun σ H Q h => by
    have h := meth_i hf h
    obtain ⟨Fo, A, sl, S, h⟩ := h
    refine ⟨Fo, A, sl, S, Rs.sat_mono h fun o h H1 A1 B1 x P1 R1 => ?_⟩
    obtain ⟨a, dx, fs, e1, e2, e3, Fo', A', sl', S', h⟩ := h H1 A1 B1 x P1 R1
    refine ⟨a, dx, fs, e1, e2, e3, ?_⟩
    unfold evEs at h
    exact (show KA G Fo' A' H1 σ _ ([], sl') from h) H1 A' [] [] (Post.refl S') ⟨rfl, rfl⟩
end
/-! ### built-in functions -/
theorem bi_i {bf : Bi} (hb : bf.plain = true) {Q : VK} (h : tE G T cf (.bi bf ps) σ H Q) : tCB (rBi G.K bf) (tAs G T cf ps) σ H Q := by
  obtain ⟨Fo, A, sl, S, h⟩ := h
  unfold evE at h
  refine ⟨Fo, A, sl, S, Rs.sat_mono (Rs.sat_bind.mp h) fun p h H1 A1 B vs P R => ?_⟩
  have h := Rs.sat_bind.mp h
  cases ev : viewR p.2 p.1 with
  | stuck => rw [ev] at h; exact h.elim
  | ok ds =>
    rw [ev] at h
    obtain ⟨P', S', e⟩ := P.opn
    exact bi_go S' hb ((R.views P.st ev).mono e) (Rs.sat_mono (Rs.sat_bind.mp h) fun r k => KE.kt k P')
theorem re_biB (bf : Bi) {id : String} (hfn : bf.fn = .builtin id) (hb : bf.plain = true) (hg : Gl X bf.nm) (hm : X.mg bf.nm = none) (hc : X.calm = true) (ha : RA G T cf X (e :: es) ps) (hv : bootBuiltins bf.nm = some (.builtin id)) (hn : bf.nm ≠ "__name__" := by decide) (hdb : (bf.nm == ("__debug__" : Str)) = false := by decide)
    (he : starEach (e :: es) X.env = (false, eval e X.env) :: starEach es X.env := by rfl) (hpl : (backTo pos (starEach es X.env)).any (·.1) = false := by rfl) (hK : G.K = X.K := by rfl) : RE G T cf X (.Call (.Name bf.nm p) (e :: es) [] pos) (.bi bf ps) :=
  PE.imp (pe_callB (by have := crBi hc bf; rw [hfn, ← hK] at this; exact this) hg hm hv ha hn hdb he hpl) fun _ _ _ => bi_i hb
theorem re_biT (bf : Bi) {id : String} (hfn : bf.fn = .type id) (hb : bf.plain = true) (hg : Gl X bf.nm) (hm : X.mg bf.nm = none) (hc : X.calm = true) (ha : RA G T cf X (e :: es) ps) (hv : bootBuiltins bf.nm = some (.type id)) (hn : bf.nm ≠ "__name__" := by decide) (hdb : (bf.nm == ("__debug__" : Str)) = false := by decide)
    (he : starEach (e :: es) X.env = (false, eval e X.env) :: starEach es X.env := by rfl) (hpl : (backTo pos (starEach es X.env)).any (·.1) = false := by rfl) (hK : G.K = X.K := by rfl) : RE G T cf X (.Call (.Name bf.nm p) (e :: es) [] pos) (.bi bf ps) :=
  PE.imp (pe_callTy (by have := crBi hc bf; rw [hfn, ← hK] at this; exact this) hg hm hv ha hn hdb he hpl) fun _ _ _ => bi_i hb
theorem bi1 {bf : Bi} {m : D → Sls → Rs (Rv × Sls)} {Q : VK} {Q2 : V → Hp → Prop} (h : tE G T cf (.bi bf (.cons pa .nil)) σ H Q)
    (k : ∀ Fo A d sl' H1 A1 x, Post G Fo A H [] A1 H1 σ sl' → SR G Fo H1 σ sl' A1 → RepV G (vis H1 Fo A1) H1 x d → (biD bf [d]).sat (Kt G Fo A1 H1 σ sl' Q) → Q2 x H1) : tE G T cf pa σ H Q2 := by
  obtain ⟨Fo, A, sl, S, h⟩ := h
  unfold evE evEs evEs at h
  refine ⟨Fo, A, sl, S, Rs.sat_mono (Rs.sat_bind.mp (Rs.sat_bind.mp h)) fun p h H1 A1 B x P R => ?_⟩
  have h : ((viewR p.2 [p.1]).bind fun ds => (biD bf ds).bind fun r => Rs.ok ((r, p.2) : Rv × Sls)).sat (KE G Fo A H σ Q) := h
  have h := Rs.sat_bind.mp h
  cases ev : view p.2 p.1 with
  | none => simp only [viewR, ev] at h; exact h.elim
  | some d =>
    simp only [viewR, ev] at h
    obtain ⟨P', S', e⟩ := P.opn
    exact k Fo A d p.2 H1 A1 x P' S' ((R.view P.st ev).mono e) (Rs.sat_mono (Rs.sat_bind.mp (show Rs.sat (Rs.bind (biD bf [d]) _) _ from h)) fun r k => KE.kt k P')
theorem re_isi (bf : Bi) {t : String} {tn : Str} {p2 : Pos} (hb : bf.ty = some t) (hg : Gl X "isinstance") (hm : X.mg "isinstance" = none) (hv : bootBuiltins "isinstance" = some (.builtin "isinstance")) (hg2 : Gl X tn) (hm2 : X.mg tn = none) (hv2 : bootBuiltins tn = some (.type t)) (ha : RE G T cf X e pa)
    (hn2 : tn ≠ "__name__" := by decide) (hdb2 : (tn == ("__debug__" : Str)) = false := by decide) (hs : starEach [e, .Name tn p2] X.env = (false, eval e X.env) :: starEach [.Name tn p2] X.env := by rfl) (hs2 : starEach [.Name tn p2] X.env = (false, eval (.Name tn p2) X.env) :: starEach [] X.env := by rfl)
    (hpl : (backTo pos (starEach [.Name tn p2] X.env)).any (·.1) = false := by rfl) (hK : G.K = X.K := by rfl) : RE G T cf X (.Call (.Name "isinstance" p) [e, .Name tn p2] [] pos) (.bi bf (.cons pa .nil)) :=
  PE.imp (pe_callB (r := rIsi G.K) (by rw [hK]; exact call_isi) hg hm hv (pa_cons ha (pa_cons (pe_bltn (v := .ty t) hg2 hm2 hv2 rfl hn2 hdb2) pa_nil hs2) hs) (by decide) (by decide) hs hpl) fun σ H Q h =>
    bi1 (m := fun _ _ => .stuck) h fun Fo A d sl' H1 A1 x P S' r h => isi_go hb r S' h
theorem re_listRange {p2 pos2 : Pos} (hc : X.calm = true) (hg : Gl X "list") (hm : X.mg "list" = none) (hg2 : Gl X "range") (hm2 : X.mg "range" = none) (ha : RE G T cf X e pa) (na : starEach [e] X.env = (false, eval e X.env) :: starEach [] X.env := by rfl)
    (na2 : starEach [.Call (.Name "range" p2) [e] [] pos2] X.env = (false, eval (.Call (.Name "range" p2) [e] [] pos2) X.env) :: starEach [] X.env := by rfl) : RE G T cf X (.Call (.Name "list" p) [.Call (.Name "range" p2) [e] [] pos2] [] pos) (.bi .listRange (.cons pa .nil)) :=
  PE.imp (pe_listRg hc hg hm (prg_1 hg2 hm2 ha na) na2) fun σ H Q h => bi1 (m := fun _ _ => .stuck) h fun Fo A d sl' H1 A1 x P S' r h => by
    cases d <;> first | exact (show False from h).elim | skip
    rename_i n
    obtain ⟨z, h⟩ := if_sat h
    refine ⟨n, r, ⟨by omega, by omega, by omega, by omega, by omega⟩, fun q hq => ?_⟩
    have e : Reps G (vis H1 Fo A1) (rgV 0 n) (rangeD 0 n) := by
      unfold rgV rangeD
      have := reps_int (G := G) (H := vis H1 Fo A1) ((List.range (n - 0).toNat).map fun i => (0 : Int) + (i : Nat))
      rw [List.map_map, List.map_map] at this
      exact this
    obtain ⟨P3, R3⟩ := out_lst S' hq e
    exact h _ _ _ P3 R3
theorem re_listRev {p2 pos2 : Pos} (hc : X.calm = true) (hg : Gl X "list") (hm : X.mg "list" = none) (hg2 : Gl X "reversed") (hm2 : X.mg "reversed" = none) (ha : RE G T cf X e pa) (na : starEach [e] X.env = (false, eval e X.env) :: starEach [] X.env := by rfl)
    (na2 : starEach [.Call (.Name "reversed" p2) [e] [] pos2] X.env = (false, eval (.Call (.Name "reversed" p2) [e] [] pos2) X.env) :: starEach [] X.env := by rfl) (hK : G.K = X.K := by rfl) : RE G T cf X (.Call (.Name "list" p) [.Call (.Name "reversed" p2) [e] [] pos2] [] pos) (.bi .listRev (.cons pa .nil)) :=
  PE.imp (pe_lstRev hc hg hm hg2 hm2 ha na na2) fun σ H Q h => bi1 (m := fun _ _ => .stuck) h fun Fo A d sl' H1 A1 x P S' r h => by
    cases d <;> first | exact (show False from h).elim | skip
    rename_i xs
    obtain ⟨a, vs, e1, e2, e3⟩ := r
    refine ⟨a, vs, e1, by rw [← hK]; exact SqL.of e2, fun q hq => ?_⟩
    obtain ⟨P3, R3⟩ := out_lst S' hq e3.rev
    exact (show Kt G Fo A1 H1 σ sl' Q (.fr (.lst xs.reverse)) from h) _ _ _ P3 R3
/-! ### methods of lists -/
theorem lst_go {d : D} {P : Unit → Prop} (h : (lstD d).sat P) : ∃ ds, d = .lst ds ∧ P () := by
  cases d <;> first | exact (show False from h).elim | skip
  exact ⟨_, rfl, h⟩
theorem bm_i {mi : Bm} {Q : VK} (h : tE G T cf (.bm mi pa ps) σ H Q) : tBM G.K "list" (rBm G.K mi) (tE G T cf pa) (tAs G T cf ps) σ H Q := by
  obtain ⟨Fo, A, sl, S, h⟩ := h
  unfold evE at h
  refine ⟨Fo, A, sl, S, Rs.sat_mono (Rs.sat_bind.mp h) fun o h H1 A1 B1 x P1 R1 => ?_⟩
  obtain ⟨d0, e0, h⟩ := Rs.of_sat (Rs.sat_bind.mp h)
  obtain ⟨ds0, q0, h⟩ := lst_go (Rs.sat_bind.mp h)
  subst q0
  refine ⟨tyBm (R1.view P1.st e0), U Fo B1, A1, o.2, P1.st, Rs.sat_mono (Rs.sat_bind.mp h) fun p h H2 A2 B2 vs P2 R2 => ?_⟩
  have R1' := R1.later P2
  rw [U_app] at R1' R2
  have P := P1.trans P2
  by_cases z : mi.looks = true
  · rw [if_pos z] at h
    obtain ⟨d, e, h⟩ := Rs.of_sat (Rs.sat_bind.mp h)
    have h := Rs.sat_bind.mp h
    cases ev : viewR p.2 p.1 with
    | stuck => rw [ev] at h; exact h.elim
    | ok ds =>
      rw [ev] at h
      obtain ⟨P', S', ex⟩ := P.opn
      have R2'' : RvRs G (vis H2 (U Fo (B1 ++ B2)) A2) H2 σ B2 vs p.1 := R2
      exact (bl_go S' ((R1'.view P.st e).mono ex) ((RvRs.views P.st R2'' ev).mono ex) (Rs.sat_mono (Rs.sat_bind.mp (show Rs.sat (Rs.bind (blD mi d ds) _) _ from h)) fun r k => KE.kt k P')).2
  · rw [if_neg z] at h
    have h := Rs.sat_bind.mp h
    cases es : settleR p.2 p.1 with
    | stuck => rw [es] at h; exact h.elim
    | ok q =>
      rw [es] at h
      obtain ⟨xs, e, h⟩ := Rs.of_sat (Rs.sat_bind.mp (show Rs.sat (Rs.bind (Rs.of (ownL q.2 o.1)) _) _ from h))
      cases o with
      | mk o1 o2 =>
      cases o1 with
      | va _ => cases e
      | fr _ => cases e
      | s i =>
        obtain ⟨eB1, eσ⟩ := R1'
        subst eB1
        have P : Post G Fo A H B2 A2 H2 σ p.2 := P
        have R2 : RvRs G (vis H2 (U Fo B2) A2) H2 σ B2 vs p.1 := R2
        obtain ⟨A3, S3, ev, rp, _, _⟩ := R2.settles P.st P.nd P.out es
        have P3 := P.settled S3 ev
        simp only [ownL] at e
        cases ei : q.2[i]? with
        | none => rw [ei] at e; cases e
        | some y =>
          rw [ei] at e
          cases y <;> first | (cases e; done) | skip
          rename_i b pp
          cases pp <;> first | (cases e; done) | skip
          cases e
          obtain ⟨a, w1, w2⟩ := S3.ow i b _ ei
          rw [eσ] at w1
          have w1 : x = .ref a := by injection w1 with w1; injection w1
          subst w1
          refine bm_go S3 ei eσ rp (Rs.sat_mono (Rs.sat_bind.mp h) fun r k H4 A4 v S4 ev4 fo4 rv => ?_)
          have k : KE G Fo A H σ Q (.va r.1, setL q.2 r.2 (.s i)) := k
          have es : setL q.2 r.2 (.s i) = q.2.set i (.ow b (.lst r.2)) := by simp only [setL, ei]
          rw [es] at k
          exact KE.va k ⟨by rw [U_nil]; exact S4, List.nodup_nil, (fun _ h => absurd h List.not_mem_nil), by rw [U_nil]; have := P3.ext; rw [U_nil] at this; exact this.trans ev4, fun y hy => (fo4 y hy).trans (P3.fo y hy)⟩ rv
theorem re_bm (mi : Bm) (slot : PySem.Slot "list" mi.nm mi.id) (hty : typeOf (.builtin mi.id) = pure (.type "method_descriptor")) (hu : X.A.units + 64 < cLine) (ho : RE G T cf X o pa) (ha : RA G T cf X (e :: es) ps)
    (hbase : attributeBase o mi.nm X.env (eval o X.env) = eval o X.env := by rfl)
    (hfew : ((backTo pos (starEach (e :: es) X.env)).all (fun x => !x.1) && (backToKw pos (keywordEach [] X.env)).all (fun x => x.1.isSome)
      && decide ((e :: es).length + ([] : List Keyword).length + (if ([] : List Keyword).isEmpty then 0 else 1) < 30)) = true := by rfl)
    (hline : (apos.endLine == pos.line) = true := by rfl) (hs : starEach (e :: es) X.env = (false, eval e X.env) :: starEach es X.env := by rfl) (hplain : (backTo pos (starEach es X.env)).any (·.1) = false := by rfl) (hK : G.K = X.K := by rfl) :
    RE G T cf X (.Call (.Attribute o mi.nm apos) (e :: es) [] pos) (.bm mi pa ps) :=
  PE.imp (pe_bm PySem.F.plainAttrs_list slot hty (mtBm hu mi) ho ha hbase hfew hline hs hplain) fun σ H Q h => by rw [← hK]; exact bm_i h
end
end Pf

/-! Pf9: what is walked; targets; comprehensions -/
namespace Pf
open PySem L2
theorem PI.imp {X : Cx} {tg e : Expr} {t t' : TI} (h : L2.PI X tg e t) (k : ∀ σ H Q, t' σ H Q → t σ H Q) : L2.PI X tg e t' := ⟨fun pins s σ H Q I q => h.run pins s σ H Q I (k σ H Q q)⟩
/-- the iterator J goes through the data ds, in every heap that holds what Hs holds -/
structure Walks (G : Gx) (J : It) (ds : List D) (Hs : Hp) : Prop where
  go : ∀ i H, Same Hs H → i < ds.length → J.go i H
  stop : ∀ i H, Same Hs H → ds.length ≤ i → J.stop i H
  yld : ∀ i H x H' d, Same Hs H → J.yld i H x H' → ds[i]? = some d → Same H H' ∧ ∀ P : AS, (∀ y, P y → H y ≠ none) → Same Hs (hide H P) → Rep G (hide H' P) x d
section
variable {G : Gx} {T : Tab} {cf : CF} {Fo : Fx} {A A1 A2 A' : Nat → List Addr} {H H1 H2 H' Hs Hs' : Hp} {σ : L2.St} {sl sl1 sl2 sl' : Sls} {B B1 B2 B' : List Addr} {v : V} {r : Rv} {vs : List V} {rs : List Rv}
variable {X : Cx} {a b c e o tg : Expr} {es : List Expr} {pa pb pc : PE} {ps : PEs} {pos p apos : Pos}
variable (G T cf) in
def tI (pi : PI) : TI := fun σ H R => ∃ Fo A sl, SR G Fo H σ sl A ∧ (evI T cf pi sl).sat fun q => ∀ J H' A', Post G Fo A H [] A' H' σ q.2 → Walks G J q.1 (vis H' Fo A') → R J H'
theorem seqT {K : PySem.W.Frag} {x : Addr} {us : List V} (e : Same Hs H) (h : SqT K Hs x us) : SqT K H x us := by
  rcases h with (h | ⟨o, h⟩) | h
  · exact .inl (.inl (e _ _ h))
  · exact .inl (.inr ⟨o, e _ _ h⟩)
  · exact .inr h
theorem get_map_int {ns : List Int} {i : Nat} {d : D} (h : (ns.map D.int)[i]? = some d) : ∃ n, ns[i]? = some n ∧ d = .int n := by
  rw [List.getElem?_map] at h
  cases e : ns[i]? with
  | none => rw [e] at h; cases h
  | some n => rw [e] at h; exact ⟨n, rfl, (Option.some.inj h).symm⟩
theorem walks_list {x : Addr} {us : List V} {ds : List D} (h : SqL G.K Hs x us) (r : Reps G Hs us ds) : Walks G (Itl G.K x) ds Hs := by
  refine ⟨fun i H e l => ?_, fun i H e l => ⟨us, e.seq h, by rw [r.len]; exact l⟩, fun i H y H' d e q z => ?_⟩
  · have l' : i < us.length := by rw [r.len]; exact l
    exact ⟨us, us[i], e.seq h, by simp [l']⟩
  · obtain ⟨q1, q2⟩ := q
    subst q1
    refine ⟨Same.refl _, fun P hP e2 => ?_⟩
    obtain ⟨w, w1, w2⟩ := r.get z
    have := q2 us (e.seq h)
    rw [w1] at this
    cases this
    exact w2.mono e2
theorem walks_tup {x : Addr} {us : List V} {ds : List D} (h : SqT G.K Hs x us) (r : Reps G Hs us ds) : Walks G (Itt G.K x) ds Hs := by
  refine ⟨fun i H e l => ?_, fun i H e l => ⟨us, seqT e h, by rw [r.len]; exact l⟩, fun i H y H' d e q z => ?_⟩
  · have l' : i < us.length := by rw [r.len]; exact l
    exact ⟨us, us[i], seqT e h, by simp [l']⟩
  · obtain ⟨q1, q2⟩ := q
    subst q1
    refine ⟨Same.refl _, fun P hP e2 => ?_⟩
    obtain ⟨w, w1, w2⟩ := r.get z
    have := q2 us (seqT e h)
    rw [w1] at this
    cases this
    exact w2.mono e2
theorem rangeD_get {m n : Int} {i : Nat} {d : D} (h : (rangeD m n)[i]? = some d) : i < (n - m).toNat ∧ d = .int (m + (i : Nat)) := by
  unfold rangeD at h
  rw [List.getElem?_map] at h
  by_cases l : i < (n - m).toNat
  · rw [List.getElem?_range l] at h
    exact ⟨l, (Option.some.inj h).symm⟩
  · rw [List.getElem?_eq_none (by simpa using l)] at h; cases h
theorem rangeD_len (m n : Int) : (rangeD m n).length = (n - m).toNat := by simp [rangeD]
theorem walks_range {m n : Int} {k : Nat} (hk : k = (n - m).toNat) : Walks G (Itr m k) (rangeD m n) Hs := by
  subst hk
  refine ⟨fun i H e l => by rw [rangeD_len] at l; exact l, fun i H e l => by rw [rangeD_len] at l; exact l, fun i H y H' d e q z => ?_⟩
  obtain ⟨q1, q2⟩ := q
  obtain ⟨_, z⟩ := rangeD_get z
  subst q1 q2 z
  exact ⟨Same.refl _, fun _ _ _ => rfl⟩
theorem walks_enum {x : Addr} {us : List V} {ds : List D} (h : SqL G.K Hs x us) (r : Reps G Hs us ds) : Walks G (Ite G.K x) (ds.zipIdx.map fun z => .tup [.int z.2, z.1]) Hs := by
  have hl : (ds.zipIdx.map fun z => D.tup [.int z.2, z.1]).length = ds.length := by simp
  refine ⟨fun i H e l => ?_, fun i H e l => ⟨us, e.seq h, by rw [r.len]; rw [hl] at l; exact l⟩, fun i H y H' d e q z => ?_⟩
  · have l' : i < us.length := by rw [r.len]; rw [hl] at l; exact l
    exact ⟨us, us[i], e.seq h, by simp [l']⟩
  · obtain ⟨t, u, q1, q2, q3, q4⟩ := q
    subst q1 q3
    have k : Same H (upd H t (.tup [.int (i : Nat), u])) := same_upd q2
    refine ⟨k, fun P hP e2 => ?_⟩
    have z2 : ∃ d0, ds[i]? = some d0 ∧ d = .tup [.int (i : Nat), d0] := by
      rw [List.getElem?_map, List.getElem?_zipIdx] at z
      cases w : ds[i]? with
      | none => rw [w] at z; cases z
      | some d0 =>
        rw [w] at z
        refine ⟨d0, rfl, ?_⟩
        have := (Option.some.inj z).symm
        simpa using this
    obtain ⟨d0, z3, z4⟩ := z2
    subst z4
    obtain ⟨w, w1, w2⟩ := r.get z3
    have e0 := q4 us (e.seq h)
    rw [w1] at e0
    have e0 : w = u := Option.some.inj e0
    subst e0
    have nt : ¬ P t := fun hp => hP t hp q2
    have e3 : Same Hs (hide (upd H t (.tup [.int (i : Nat), w])) P) := e2.trans (hide_same fun b o n hb => ⟨n, k b o hb⟩)
    exact ⟨t, _, rfl, by rw [hide_no nt, upd_same], ⟨_, _, rfl, rfl, _, _, rfl, w2.mono e3, rfl⟩⟩
/-- one that walks a list or a tuple -/
def iSeq (K : PySem.W.Frag) (tl : TE) : TI := fun σ H R => tl σ H fun x H1 => ∃ a, x = .ref a ∧ (((∃ xs, SqL K H1 a xs) ∧ R (Itl K a) H1) ∨ ((∃ xs, SqT K H1 a xs) ∧ R (Itt K a) H1))
theorem pi_seq {l : Expr} {tl : TE} (hl : L2.PE X l tl) : L2.PI X tg l (iSeq X.K tl) := by
  refine ⟨fun pins s σ H R I h => ?_⟩
  refine thn (hl.run pins s σ H _ I h) fun v s1 ⟨x, H1, I1, r1, q1⟩ => ?_
  obtain ⟨a, e, ⟨⟨xs, hq⟩, q⟩ | ⟨⟨xs, hq⟩, q⟩⟩ := q1
  · subst e
    cases r1
    obtain ⟨its, rv, p, hz⟩ := I1.list hq
    refine wpAny_pyIter_list p.isList ?_
    refine ⟨s1.heap.objs.size, [s1.heap.objs.size], _, _, H1, rfl, I1.kept (t' := s1.toks) fun b o e => Heap.get?_push_of_some _ e, turn_list a _, ⟨_, Heap.get?_push_size _ rfl, rfl, rfl⟩, fun b hb => ?_, q⟩
    have e : b = s1.heap.objs.size := by simpa using hb
    subst e
    exact I1.fpOk (Nat.le_refl _) (I1.hok.fresh (Nat.le_refl _))
  · subst e
    cases r1
    obtain ⟨its, rv, p, hz⟩ := I1.tuple hq
    refine wpAny_pyIter_tuple (show s1.heap.IsTuple a its.toArray from p) ?_
    refine ⟨s1.heap.objs.size, [s1.heap.objs.size], _, _, H1, rfl, I1.kept (t' := s1.toks) fun b o e => Heap.get?_push_of_some _ e, turn_tuple a _, ⟨_, Heap.get?_push_size _ rfl, rfl, rfl⟩, fun b hb => ?_, q⟩
    have e : b = s1.heap.objs.size := by simpa using hb
    subst e
    exact I1.fpOk (Nat.le_refl _) (I1.hok.fresh (Nat.le_refl _))
theorem settle1_go {Q : D × Sls → Prop} (P : Post G Fo A H B A1 H1 σ sl1) (R : RvR G (vis H1 (U Fo B) A1) H1 σ B v r) (h : (Rs.of (settle sl1 r)).sat Q) :
    ∃ d sl2 A2, Post G Fo A H [] A2 H1 σ sl2 ∧ SR G Fo H1 σ sl2 A2 ∧ Rep G (vis H1 Fo A2) v d ∧ Q (d, sl2) := by
  obtain ⟨z, e, h⟩ := Rs.of_sat h
  obtain ⟨A2, S2, ev, rp⟩ := R.settle P.st P.out e
  exact ⟨z.1, z.2, A2, P.settled S2 ev, S2, rp, h⟩
abbrev RI (G : Gx) (T : Tab) (cf : CF) (X : Cx) (tg it : Expr) (p : PI) : Prop := L2.PI X tg it (tI G T cf p)
theorem ri_of (he : RE G T cf X e pa) (hK : G.K = X.K := by rfl) : RI G T cf X tg e (.of pa) := PI.imp (pi_seq he) fun σ H R h => by
  rw [← hK]
  obtain ⟨Fo, A, sl, S, h⟩ := h
  unfold evI at h
  refine ⟨Fo, A, sl, S, Rs.sat_mono (Rs.sat_bind.mp h) fun p h H1 A1 B x P R0 => ?_⟩
  obtain ⟨d, sl2, A2, P2, S2, rp, h⟩ := settle1_go P R0 (Rs.sat_bind.mp h)
  cases d <;> first | exact (show False from h).elim | skip
  case lst xs =>
    obtain ⟨a, vs, e1, e2, e3⟩ := rp
    exact ⟨a, e1, .inl ⟨⟨vs, SqL.of (hide_sub _ _ e2)⟩, h _ H1 A2 P2 (walks_list (SqL.of e2) e3)⟩⟩
  case tup xs =>
    obtain ⟨a, vs, e1, e2, e3⟩ := rp
    exact ⟨a, e1, .inr ⟨⟨vs, SqT.of (hide_sub _ _ e2)⟩, h _ H1 A2 P2 (walks_tup (SqT.of e2) e3)⟩⟩
  case scr ns =>
    obtain ⟨a, e1, e2⟩ := rp
    exact ⟨a, e1, .inl ⟨⟨_, hide_sub.seq e2⟩, h _ H1 A2 P2 (walks_list e2 (reps_int ns))⟩⟩
theorem ri_rng1 (he : RE G T cf X e pa) (hg : Gl X "range") (hm : X.mg "range" = none) (hs : starEach [e] X.env = [(false, eval e X.env)] := by rfl) : RI G T cf X tg (.Call (.Name "range" p) [e] [] pos) (.rng1 pa) :=
  PI.imp (pi_range1 hg hm (pa_cons he pa_nil hs) hs) fun σ H R h => by
    obtain ⟨Fo, A, sl, S, h⟩ := h
    unfold evI at h
    refine ⟨Fo, A, sl, S, Rs.sat_mono (Rs.sat_bind.mp h) fun p h H1 A1 B x P R0 => ?_⟩
    obtain ⟨d, e, h⟩ := Rs.of_sat (Rs.sat_bind.mp h)
    have rv := R0.view P.st e
    cases d <;> first | exact (show False from h).elim | skip
    rename_i n
    obtain ⟨z, h⟩ := if_sat (show (if _ then _ else _ : Rs _).sat _ from h)
    have rv : x = .int n := rv
    subst rv
    exact ⟨n, rfl, z.2, z.1, h _ H1 A1 P.opn.1 (walks_range (by omega))⟩
theorem ri_rng2 (ha : RE G T cf X a pa) (hb : RE G T cf X b pb) (hg : Gl X "range") (hm : X.mg "range" = none) (hs : starEach [a, b] X.env = [(false, eval a X.env), (false, eval b X.env)] := by rfl) (hs2 : starEach [b] X.env = [(false, eval b X.env)] := by rfl) :
    RI G T cf X tg (.Call (.Name "range" p) [a, b] [] pos) (.rng2 pa pb) :=
  PI.imp (pi_range2 hg hm (pa_cons ha (pa_cons hb pa_nil hs2) (by rw [hs, hs2])) hs hs2) fun σ H R h => by
    obtain ⟨Fo, A, sl, S, h⟩ := h
    unfold evI at h
    refine go2 S h fun p q H1 A1 B1 B2 x y P R1 R2 h => ?_
    obtain ⟨d1, e1, h⟩ := Rs.of_sat (Rs.sat_bind.mp h)
    obtain ⟨d2, e2, h⟩ := Rs.of_sat (Rs.sat_bind.mp h)
    have r1 := R1.view P.st e1
    have r2 := R2.view P.st e2
    obtain ⟨m, em⟩ : ∃ m, d1 = .int m := by
      cases d1 <;> first | exact ⟨_, rfl⟩ | exact (show False from h).elim
    subst em
    obtain ⟨n, en⟩ : ∃ n, d2 = .int n := by
      cases d2 <;> first | exact ⟨_, rfl⟩ | exact (show False from h).elim
    subst en
    obtain ⟨z, h⟩ := if_sat (show (if _ then _ else _ : Rs _).sat _ from h)
    have r1 : x = .int m := r1
    have r2 : y = .int n := r2
    subst r1 r2
    exact ⟨m, n, rfl, z, h _ H1 A1 P.opn.1 (walks_range rfl)⟩
theorem ri_enum {tpos : Pos} {elts : List Expr} {kk : Nat} (he : RE G T cf X e pa) (hg : Gl X "enumerate") (hm : X.mg "enumerate" = none) (hs : starEach [e] X.env = [(false, eval e X.env)] := by rfl) (hK : G.K = X.K := by rfl) :
    RI G T cf X (.Tuple elts kk tpos) (.Call (.Name "enumerate" p) [e] [] pos) (.enum pa) :=
  PI.imp (pi_enum hg hm (pa_cons he pa_nil hs) hs) fun σ H R h => by
    rw [← hK]
    obtain ⟨Fo, A, sl, S, h⟩ := h
    unfold evI at h
    refine ⟨Fo, A, sl, S, Rs.sat_mono (Rs.sat_bind.mp h) fun p h H1 A1 B x P R0 => ?_⟩
    obtain ⟨d, sl2, A2, P2, S2, rp, h⟩ := settle1_go P R0 (Rs.sat_bind.mp h)
    cases d <;> first | exact (show False from h).elim | skip
    obtain ⟨a, vs, e1, e2, e3⟩ := rp
    subst e1
    exact ⟨a, vs, rfl, SqL.of (hide_sub _ _ e2), h _ H1 A2 P2 (walks_enum (SqL.of e2) e3)⟩
/-! ### targets -/
def Tgt.ids : Tgt → List Nat
  | .one i => [i]
  | .many is => is
variable (G) in
def tG (tg : Tgt) : TG := fun v σ H Q => ∃ Fo A sl d, SR G Fo H σ sl A ∧ Rep G (vis H Fo A) v d ∧ (giveT tg d sl).sat fun sl' => ∀ σ' A', SR G Fo H σ' sl' A' → Same (vis H Fo A) (vis H Fo A') → (∀ ws : List Nat, (∀ i ∈ tg.ids, i ∈ ws) → wipe σ' ws = wipe σ ws) → Q σ' H
variable (G) in
def tGs (is : List Nat) : TGs := fun vs σ H Q => ∃ Fo A sl ds, SR G Fo H σ sl A ∧ Reps G (vis H Fo A) vs ds ∧ (setAll sl is ds).sat fun sl' => ∀ σ' A', SR G Fo H σ' sl' A' → Same (vis H Fo A) (vis H Fo A') → (∀ ws : List Nat, (∀ i ∈ is, i ∈ ws) → wipe σ' ws = wipe σ ws) → Q σ' H
theorem wipe_get (σ : L2.St) (j : Nat) : ∀ ws : List Nat, (wipe σ ws)[j]? = if j ∈ ws then σ[j]?.map fun _ => none else σ[j]?
  | [] => by simp [wipe]
  | w :: ws => by
    unfold wipe
    by_cases q : w = j
    · subst q
      by_cases l : w < σ.length
      · rw [List.getElem?_set_self (by rw [wipe_length]; exact l)]
        simp [l]
      · rw [List.getElem?_eq_none (by rw [List.length_set, wipe_length]; exact Nat.le_of_not_lt l)]
        simp [l]
    · rw [List.getElem?_set_ne q, wipe_get σ j ws]
      have : (j ∈ w :: ws) ↔ j ∈ ws := by
        rw [List.mem_cons]
        exact ⟨fun z => z.elim (fun z => absurd z.symm q) id, .inr⟩
      by_cases m : j ∈ ws
      · rw [if_pos m, if_pos (this.mpr m)]
      · rw [if_neg m, if_neg fun z => m (this.mp z)]
theorem wipe_set {i : Nat} {x : Option V} {ws : List Nat} (h : i ∈ ws) : wipe (σ.set i x) ws = wipe σ ws := by
  apply List.ext_getElem?
  intro j
  rw [wipe_get, wipe_get]
  by_cases q : i = j
  · subst q
    rw [if_pos h, if_pos h]
    by_cases l : i < σ.length
    · rw [List.getElem?_set_self l, List.getElem?_eq_getElem l]; rfl
    · rw [List.getElem?_eq_none (by rw [List.length_set]; exact Nat.le_of_not_lt l), List.getElem?_eq_none (Nat.le_of_not_lt l)]
  · rw [List.getElem?_set_ne q]
theorem setS_go {i : Nat} {x : Sl} {Q : Sls → Prop} (h : (setS sl i x).sat Q) : i < sl.length ∧ Q (sl.set i x) := by
  unfold setS at h
  cases e : sl[i]? with
  | none => rw [e] at h; exact h.elim
  | some y =>
    rw [e] at h
    refine ⟨(List.getElem?_eq_some_iff.mp e).1, ?_⟩
    cases y with
    | ow b p => cases b <;> first | exact (show False from h).elim | exact h
    | un => exact h
    | va d => exact h
theorem g_name {i : Nat} {v : V} {Q : L2.St → Hp → Prop} (h : tG G (.one i) v σ H Q) : gName i v σ H Q := by
  obtain ⟨Fo, A, sl, d, S, r, h⟩ := h
  obtain ⟨hi, h⟩ := setS_go (show (setS sl i (.va d)).sat _ from h)
  obtain ⟨S', ev⟩ := S.setV hi r
  exact h _ _ S' ev fun ws hw => wipe_set (hw i List.mem_cons_self)
theorem PG.imp {e : Expr} {t t' : TG} (h : L2.PG X e t) (k : ∀ v σ H Q, t' v σ H Q → t v σ H Q) : L2.PG X e t' := ⟨fun pins s σ H v u Q I r q => h.run pins s σ H v u Q I r (k v σ H Q q)⟩
theorem PGs.imp {es : List Expr} {t t' : TGs} (h : L2.PGs X es t) (k : ∀ v σ H Q, t' v σ H Q → t v σ H Q) : L2.PGs X es t' := ⟨fun pins s σ H v u Q I r q => h.run pins s σ H v u Q I r (k v σ H Q q)⟩
theorem rg_one (i : Nat) {x : Str} (hN : X.N.Nodup) (hi : X.N[i]? = some x := by rfl) (hx : Loc X.env.scope x := by first | exact Or.inl rfl | exact Or.inr rfl) (hf : X.fn x = true ∨ X.env.scope.names.lookup x = some .local := by first | exact .inl rfl | exact .inr rfl | assumption) :
    L2.PG X (.Name x pos) (tG G (.one i)) := PG.imp (pg_name hN hi hx hf) fun _ _ _ _ => g_name
theorem rgs_nil : L2.PGs X [] (tGs G []) := PGs.imp pgs_nil fun vs σ H Q h => by
  obtain ⟨Fo, A, sl, ds, S, r, h⟩ := h
  cases ds with
  | nil => exact ⟨r, (show ∀ σ' A', SR G Fo H σ' sl A' → _ → _ → Q σ' H from h) σ A S (Same.refl _) fun _ _ => rfl⟩
  | cons d ds => exact h.elim
theorem rgs_cons (i : Nat) {is : List Nat} {x : Str} {es : List Expr} (hN : X.N.Nodup) (h2 : L2.PGs X es (tGs G is)) (hi : X.N[i]? = some x := by rfl) (hx : Loc X.env.scope x := by first | exact Or.inl rfl | exact Or.inr rfl) (hf : X.fn x = true ∨ X.env.scope.names.lookup x = some .local := by first | exact .inl rfl | exact .inr rfl | assumption)
    (hs : (assignEach (.Name x pos :: es) X.env).map (·.2) = assign (.Name x pos) X.env :: (assignEach es X.env).map (·.2) := by rfl) : L2.PGs X (.Name x pos :: es) (tGs G (i :: is)) :=
  PGs.imp (pgs_cons (pg_name (pos := pos) hN hi hx hf) h2 hs) fun vs σ H Q h => by
    obtain ⟨Fo, A, sl, ds, S, r, h⟩ := h
    cases ds with
    | nil => exact h.elim
    | cons d ds =>
      obtain ⟨v, ws, e1, r1, r2⟩ := r
      obtain ⟨hi, h⟩ := setS_go (Rs.sat_bind.mp h)
      obtain ⟨S', ev⟩ := S.setV hi r1
      refine ⟨v, ws, e1, Fo, _, _, ds, S', r2.mono ev, Rs.sat_mono h fun sl' k σ' A' S2 ev2 w => k σ' A' S2 (ev.trans ev2) fun us hu => ?_⟩
      rw [w us fun j hj => hu j (List.mem_cons_of_mem _ hj), wipe_set (hu i List.mem_cons_self)]
theorem setAll_len : ∀ {is : List Nat} {ds : List D} {sl : Sls} {Q : Sls → Prop}, (setAll sl is ds).sat Q → ds.length = is.length
  | [], [], _, _, _ => rfl
  | [], _ :: _, _, _, h => h.elim
  | _ :: _, [], _, _, h => h.elim
  | i :: is, d :: ds, sl, Q, h => by
    obtain ⟨_, h⟩ := setS_go (Rs.sat_bind.mp h)
    simp [setAll_len h]
theorem g_many {is : List Nat} {n : Nat} (hn : is.length = n) {v : V} {Q : L2.St → Hp → Prop} (h : tG G (.many is) v σ H Q) : gTup G.K n (tGs G is) v σ H Q := by
  obtain ⟨Fo, A, sl, d, S, r, h⟩ := h
  cases d <;> first | exact (show False from h).elim | skip
  rename_i ds
  obtain ⟨a, us, e1, e2, e3⟩ := r
  exact ⟨a, us, e1, SqT.of (hide_sub _ _ e2), by rw [e3.len, setAll_len (show (setAll sl is ds).sat _ from h), hn], Fo, A, sl, ds, S, e3, h⟩
theorem rg_many {is : List Nat} {k : Nat} (hc : X.calm = true) (h : L2.PGs X es (tGs G is)) (hn : (assignEach es X.env).length = is.length := by rfl) (hst : (assignEach es X.env).findIdx? (·.1) = none := by rfl) (hK : G.K = X.K := by rfl) : L2.PG X (.Tuple es k pos) (tG G (.many is)) :=
  PG.imp (pg_tup hc h hn hst) fun _ _ _ _ q => by rw [← hK]; exact g_many rfl q
/-! ### comprehensions -/
variable (G T cf) in
def tC' (po : POpt) : TT := fun σ H Q => ∃ Fo A sl, SR G Fo H σ sl A ∧ (evC T cf po sl).sat (KT G Fo A H σ Q)
theorem PTs.imp {es : List Expr} {t t' : TT} (h : L2.PTs X es t) (k : ∀ σ H Q, t' σ H Q → t σ H Q) : L2.PTs X es t' := ⟨fun pins s σ H Q I q => h.run pins s σ H Q I (k σ H Q q)⟩
theorem rc_none : L2.PTs X [] (tC' G T cf .none) := PTs.imp pts_nil fun σ H Q h => by
  obtain ⟨Fo, A, sl, S, h⟩ := h
  unfold evC at h
  exact (show KT G Fo A H σ Q (true, sl) from h) H A (Post.refl S)
theorem rc_some (h : RT G T cf X e pa) : L2.PTs X [e] (tC' G T cf (.some pa)) := PTs.imp (pts_one h) fun σ H Q h => by
  obtain ⟨Fo, A, sl, S, h⟩ := h
  unfold evC at h
  exact ⟨Fo, A, sl, S, h⟩
theorem wipeS_len (sl : Sls) : ∀ ws : List Nat, (wipeS sl ws).length = sl.length
  | [] => rfl
  | w :: ws => by unfold wipeS; rw [List.length_set, wipeS_len sl ws]
theorem wipeS_get (sl : Sls) (j : Nat) : ∀ ws : List Nat, (wipeS sl ws)[j]? = if j ∈ ws then sl[j]?.map fun _ => .un else sl[j]?
  | [] => by simp [wipeS]
  | w :: ws => by
    unfold wipeS
    by_cases q : w = j
    · subst q
      by_cases l : w < sl.length
      · rw [List.getElem?_set_self (by rw [wipeS_len]; exact l)]
        simp [l]
      · rw [List.getElem?_eq_none (by rw [List.length_set, wipeS_len]; exact Nat.le_of_not_lt l)]
        simp [l]
    · rw [List.getElem?_set_ne q, wipeS_get sl j ws]
      have : (j ∈ w :: ws) ↔ j ∈ ws := by
        rw [List.mem_cons]
        exact ⟨fun z => z.elim (fun z => absurd z.symm q) id, .inr⟩
      by_cases m : j ∈ ws
      · rw [if_pos m, if_pos (this.mpr m)]
      · rw [if_neg m, if_neg fun z => m (this.mp z)]
theorem backS_len (o sl : Sls) : ∀ ws : List Nat, (backS o sl ws).length = sl.length
  | [] => rfl
  | w :: ws => by
    unfold backS
    cases o[w]? with
    | none => exact backS_len o sl ws
    | some x => rw [List.length_set, backS_len o sl ws]
theorem backS_get (o sl : Sls) (hl : o.length = sl.length) (j : Nat) : ∀ ws : List Nat, (backS o sl ws)[j]? = if j ∈ ws then o[j]? else sl[j]?
  | [] => by simp [backS]
  | w :: ws => by
    unfold backS
    have ne : ¬ w = j → ((j ∈ w :: ws) ↔ j ∈ ws) := fun q => by
      rw [List.mem_cons]
      exact ⟨fun z => z.elim (fun z => absurd z.symm q) id, .inr⟩
    cases e : o[w]? with
    | none =>
      show (backS o sl ws)[j]? = _
      rw [backS_get o sl hl j ws]
      by_cases q : w = j
      · subst q
        have l : o.length ≤ w := List.getElem?_eq_none_iff.mp e
        rw [if_pos List.mem_cons_self, e, List.getElem?_eq_none (by omega)]
        split <;> rfl
      · by_cases m : j ∈ ws
        · rw [if_pos m, if_pos ((ne q).mpr m)]
        · rw [if_neg m, if_neg fun z => m ((ne q).mp z)]
    | some x =>
      show ((backS o sl ws).set w x)[j]? = _
      by_cases q : w = j
      · subst q
        have l : w < o.length := (List.getElem?_eq_some_iff.mp e).1
        rw [List.getElem?_set_self (by rw [backS_len]; omega), if_pos List.mem_cons_self, e]
      · rw [List.getElem?_set_ne q, backS_get o sl hl j ws]
        by_cases m : j ∈ ws
        · rw [if_pos m, if_pos ((ne q).mpr m)]
        · rw [if_neg m, if_neg fun z => m ((ne q).mp z)]
theorem calm_at {ws : List Nat} (h : calmS sl ws = true) {j : Nat} (hj : j ∈ ws) : sl[j]? = some .un ∨ ∃ d, sl[j]? = some (.va d) := by
  have := List.all_eq_true.mp h j hj
  cases e : sl[j]? with
  | none => rw [e] at this; simp at this
  | some x =>
    rw [e] at this
    cases x with
    | un => exact .inl rfl
    | va d => exact .inr ⟨d, rfl⟩
    | ow b p => simp at this
theorem SR.wipe {ws : List Nat} (S : SR G Fo H σ sl A) (hc : calmS sl ws = true) : SR G Fo H (L2.wipe σ ws) (wipeS sl ws) A := by
  have out : ∀ (j : Nat) x, (wipeS sl ws)[j]? = some x → x = .un ∨ (j ∉ ws ∧ sl[j]? = some x) := fun j x e => by
    rw [wipeS_get] at e
    by_cases m : j ∈ ws
    · rw [if_pos m] at e
      cases z : sl[j]? with
      | none => rw [z] at e; cases e
      | some y => rw [z] at e; exact .inl (Option.some.inj e).symm
    · rw [if_neg m] at e; exact .inr ⟨m, e⟩
  have gσ : ∀ j, j ∉ ws → (L2.wipe σ ws)[j]? = σ[j]? := fun j m => by rw [wipe_get, if_neg m]
  refine ⟨by rw [wipe_length, wipeS_len]; exact S.len, fun j d e => ?_, fun j b p e => ?_, fun j h => ?_, S.nd, S.dj, S.fd, S.fa, fun j p e => ?_⟩
  · rcases out j _ e with z | ⟨m, z⟩
    · cases z
    · rw [gσ j m]; exact S.va j d z
  · rcases out j _ e with z | ⟨m, z⟩
    · cases z
    · rw [gσ j m]; exact S.ow j b p z
  · by_cases m : j ∈ ws
    · refine S.no j fun b p z => ?_
      rcases calm_at hc m with w | ⟨d, w⟩ <;> (rw [w] at z; cases z)
    · refine S.no j fun b p z => h b p ?_
      rw [wipeS_get, if_neg m]; exact z
  · rcases out j _ e with z | ⟨m, z⟩
    · cases z
    · rw [gσ j m]; exact S.ro j p z
/-- the own names of a block come back -/
theorem SR.back {ws : List Nat} {sl0 : Sls} {A0 : Nat → List Addr} {H0 : Hp} {Fo0 : Fx} (S : SR G Fo H (L2.wipe σ ws) (wipeS sl ws) A) (S0 : SR G Fo0 H0 σ sl0 A0) (ev : Same (vis H0 Fo0 A0) (vis H Fo A)) (hc0 : calmS sl0 ws = true) : SR G Fo H σ (backS sl0 sl ws) A := by
  have hl : sl0.length = sl.length := by
    have h1 := S.len
    rw [wipe_length, wipeS_len] at h1
    exact S0.len.symm.trans h1
  have g : ∀ j, (backS sl0 sl ws)[j]? = if j ∈ ws then sl0[j]? else sl[j]? := fun j => backS_get sl0 sl hl j ws
  have gw : ∀ j, j ∉ ws → (wipeS sl ws)[j]? = sl[j]? ∧ (L2.wipe σ ws)[j]? = σ[j]? := fun j m => ⟨by rw [wipeS_get, if_neg m], by rw [wipe_get, if_neg m]⟩
  have own : ∀ j b p, j ∈ ws → sl0[j]? ≠ some (Sl.ow b p) := fun j b p m z => by
    rcases calm_at hc0 m with w | ⟨d, w⟩ <;> (rw [w] at z; cases z)
  refine ⟨by rw [backS_len]; rw [← hl]; exact S0.len, fun j d e => ?_, fun j b p e => ?_, fun j h => ?_, S.nd, S.dj, S.fd, S.fa, fun j p e => ?_⟩
  · rw [g] at e
    by_cases m : j ∈ ws
    · rw [if_pos m] at e
      obtain ⟨v, w1, w2⟩ := S0.va j d e
      exact ⟨v, w1, w2.mono ev⟩
    · rw [if_neg m] at e
      obtain ⟨v, w1, w2⟩ := S.va j d ((gw j m).1.trans e)
      exact ⟨v, (gw j m).2.symm.trans w1, w2⟩
  · rw [g] at e
    by_cases m : j ∈ ws
    · rw [if_pos m] at e; exact absurd e (own j b p m)
    · rw [if_neg m] at e
      obtain ⟨v, w1, w2⟩ := S.ow j b p ((gw j m).1.trans e)
      exact ⟨v, (gw j m).2.symm.trans w1, w2⟩
  · refine S.no j fun b p z => ?_
    rw [wipeS_get] at z
    by_cases m : j ∈ ws
    · rw [if_pos m] at z
      cases w : sl[j]? with
      | none => rw [w] at z; cases z
      | some y => rw [w] at z; cases z
    · rw [if_neg m] at z
      exact h b p (by rw [g, if_neg m]; exact z)
  · rw [g] at e
    by_cases m : j ∈ ws
    · rw [if_pos m] at e; exact absurd e (own j _ p m)
    · rw [if_neg m] at e
      exact (gw j m).2.symm.trans (S.ro j p ((gw j m).1.trans e))
theorem hide_upd {P : AS} {D0 : Addr} {o : HO} (h : P D0) : hide (upd H D0 o) P = hide H P := by
  funext b
  by_cases q : P b
  · rw [hide_yes q, hide_yes q]
  · rw [hide_no q, hide_no q, upd_ne fun z => q (by rw [z]; exact h)]
theorem SR.hid {D0 : Addr} {o : HO} (S : SR G Fo H σ sl A) (h : Fo D0) : SR G Fo (upd H D0 o) σ sl A := by
  have e : vis (upd H D0 o) Fo A = vis H Fo A := hide_upd (.inl h)
  refine ⟨S.len, fun j d q => by rw [show hide (upd H D0 o) (Hd Fo A) = hide H (Hd Fo A) from e]; exact S.va j d q, fun j b p q => ?_, S.no, S.nd, S.dj, S.fd, fun x z => ?_, S.ro⟩
  · obtain ⟨a, w1, w2⟩ := S.ow j b p q
    refine ⟨a, w1, ?_⟩
    rw [show hide (upd H D0 o) (Hd Fo A) = hide H (Hd Fo A) from e]
    exact w2.mono (Same.refl _) fun x hx => upd_ne fun z => S.fd j x hx (by rw [z]; exact h)
  · by_cases q : x = D0
    · subst q; rw [upd_same]; simp
    · rw [upd_ne q]; exact S.fa x z
end
end Pf

/-! Pf10: comprehensions -/
namespace Pf
open PySem L2
section
variable {G : Gx} {T : Tab} {cf : CF} {Fo : Fx} {A A1 A2 A' : Nat → List Addr} {H H1 H2 H' Hs Hs' : Hp} {σ : L2.St} {sl sl1 sl2 sl' : Sls} {B B1 B2 B' : List Addr} {v : V} {r : Rv} {vs : List V} {rs : List Rv}
variable {X : Cx} {a b c e o tg : Expr} {es : List Expr} {pa pb pc : PE} {ps : PEs} {pos p apos : Pos}
/-- one turn of a comprehension -/
def lcBody (T : Tab) (cf : CF) (own : List Nat) (tg : Tgt) (cond : POpt) (elt : PE) : D → Sls → Rs (Option D × Sls) := fun d sl => (giveT tg d (wipeS sl own)).bind fun sl => (evC T cf cond sl).bind fun c => if c.1 = true then (evE T cf elt c.2).bind fun r => (Rs.of (settle r.2 r.1)).bind fun y => if calmS y.2 own = true then .ok (some y.1, y.2) else .stuck
        else if calmS c.2 own = true then .ok (none, c.2) else .stuck
theorem evE_lc (own : List Nat) (tg : Tgt) (it : PI) (cond : POpt) (elt : PE) (sl : Sls) : evE T cf (.lc own tg it cond elt) sl = (evI T cf it sl).bind fun p => if calmS p.2 own = true ∧ p.1.length < sizeLine then
      (lcLoop (lcBody T cf own tg cond elt) p.1 p.2).bind fun q => if calmS q.2 own = true then .ok (.fr (.lst q.1), backS p.2 q.2 own) else .stuck else .stuck := by
  rw [evE]
  rfl
/-- the invariant of the loop -/
structure LcI (G : Gx) (T : Tab) (cf : CF) (own : List Nat) (tg : Tgt) (cond : POpt) (elt : PE) (Fo : Fx) (D0 : Addr) (Hs H1 : Hp) (σ : L2.St) (ds : List D) (K : List D × Sls → Prop) (i : Nat) (H : Hp) (A : Nat → List Addr) (sl : Sls) (accD : List D) (accV : List V) : Prop where
  sr : SR G (U Fo [D0]) H (wipe σ own) (wipeS sl own) A
  at' : H D0 = some (.lst accV)
  acc : Reps G (vis H (U Fo [D0]) A) accV accD
  ext : Same Hs (vis H (U Fo [D0]) A)
  fo : ∀ x, Fo x → H x = H1 x
  len : accD.length ≤ i
  go : (lcLoop (lcBody T cf own tg cond elt) (ds.drop i) sl).sat fun q => K (accD ++ q.1, q.2)
theorem wipe_wipe (σ : L2.St) (ws : List Nat) : wipe (wipe σ ws) ws = wipe σ ws := by
  apply List.ext_getElem?
  intro j
  rw [wipe_get, wipe_get]
  by_cases m : j ∈ ws
  · rw [if_pos m, if_pos m, Option.map_map]; rfl
  · rw [if_neg m, if_neg m]
theorem lc_loop {own : List Nat} {tgt : Tgt} {cond : POpt} {elt : PE} (hids : ∀ i ∈ tgt.ids, i ∈ own) {ds : List D} {J : It} {D0 : Addr} (S1 : SR G Fo H1 σ sl1 A1) (hc : calmS sl1 own = true) (hz : ds.length < sizeLine) (W : Walks G J ds (vis H1 Fo A1)) (hD : H1 D0 = none)
    {K : List D × Sls → Prop} {Qd : Hp → Prop} (h : (lcLoop (lcBody T cf own tgt cond elt) ds sl1).sat K)
    (fin : ∀ H' A' sl' accD accV, SR G (U Fo [D0]) H' σ (backS sl1 sl' own) A' → H' D0 = some (.lst accV) → Reps G (vis H' (U Fo [D0]) A') accV accD → Same (vis H1 Fo A1) (vis H' (U Fo [D0]) A') → (∀ x, Fo x → H' x = H1 x) → K (accD, sl') → Qd H') :
    ∃ W : Nat → Nat → Hp → Prop, (∃ m, W 0 m (upd H1 D0 (.lst []))) ∧ ∀ i m H, W i m H →
      (J.stop i H ∧ Qd H) ∨ (J.go i H ∧ ∃ Nx : Hp → Prop, (∀ H', Nx H' → ∃ m', m' < m ∧ W (i + 1) m' H') ∧ ∀ x H', J.yld i H x H' → tG G tgt x (wipe σ own) H' fun σ2 H2 => wipe σ2 own = wipe σ own ∧ tC' G T cf cond σ2 H2 fun b H3 =>
        if b = true then tE G T cf elt σ2 H3 fun y H4 => ∃ acc, H4 D0 = some (.lst acc) ∧ acc.length < sizeLine ∧ Nx (upd H4 D0 (.lst (acc ++ [y]))) else Nx H3) := by
  have PD := S1.grow (H' := upd H1 D0 (.lst [])) (B := [D0]) (same_upd hD) (by simp) fun x hx => by
    have : x = D0 := by simpa using hx
    subst this
    exact ⟨hD, by rw [upd_same]; simp⟩
  have nF : ¬ Fo D0 := PD.out D0 List.mem_cons_self
  have nD : ∀ x, Fo x → x ≠ D0 := fun x hx z => nF (by rw [← z]; exact hx)
  refine ⟨fun i m H => m = ds.length - i ∧ i ≤ ds.length ∧ ∃ A sl accD accV, LcI G T cf own tgt cond elt Fo D0 (vis H1 Fo A1) H1 σ ds K i H A sl accD accV, ⟨_, rfl, Nat.zero_le _, A1, sl1, [], [], ⟨?_, upd_same, rfl, PD.ext, fun x hx => upd_ne (nD x hx), Nat.le_refl _, ?_⟩⟩, ?_⟩
  · exact PD.st.wipe hc
  · rw [List.drop_zero]
    exact Rs.sat_mono h fun q k => k
  · rintro i m H ⟨rfl, hi, A, sl, accD, accV, I⟩
    have eH : Same (vis H1 Fo A1) H := I.ext.trans hide_sub
    by_cases hlt : i < ds.length
    · refine .inr ⟨W.go i H eH hlt, fun H' => ∃ A sl accD accV, LcI G T cf own tgt cond elt Fo D0 (vis H1 Fo A1) H1 σ ds K (i + 1) H' A sl accD accV, fun H' q => ⟨ds.length - (i + 1), by omega, rfl, hlt, q⟩, fun x H' yl => ?_⟩
      have ed : ds[i]? = some ds[i] := by simp [hlt]
      obtain ⟨gr, rp⟩ := W.yld i H x H' ds[i] eH yl ed
      have hgo := I.go
      rw [List.drop_eq_getElem_cons hlt] at hgo
      unfold lcLoop at hgo
      have hgo := Rs.sat_bind.mp hgo
      -- the state when the item has come
      have P0 := I.sr.grow gr List.nodup_nil fun _ h => absurd h List.not_mem_nil
      have S0 : SR G (U Fo [D0]) H' (wipe σ own) (wipeS sl own) A := P0.sr
      have ev0 : Same (vis H (U Fo [D0]) A) (vis H' (U Fo [D0]) A) := by have := P0.ext; rw [U_nil] at this; exact this
      have rx := rp (Hd (U Fo [D0]) A) (fun y hy => by
        rcases hy with hy | ⟨j, hy⟩
        · exact I.sr.fa y hy
        · obtain ⟨o, e⟩ := I.sr.there hy
          rw [e]; simp) I.ext
      unfold lcBody at hgo
      have hgo := Rs.sat_bind.mp hgo
      refine ⟨U Fo [D0], A, wipeS sl own, ds[i], S0, rx, Rs.sat_mono hgo fun sl2 hgo σ2 A2 S2 ev2 hw0 => ?_⟩
      have hw : wipe σ2 own = wipe σ own := (hw0 own hids).trans (wipe_wipe σ own)
      refine ⟨hw, ?_⟩
      refine ⟨U Fo [D0], A2, sl2, S2, Rs.sat_mono (Rs.sat_bind.mp hgo) fun c hgo H3 A3 P3 => ?_⟩
      have at3 : H3 D0 = some (.lst accV) := (P3.fo D0 (.inr List.mem_cons_self)).trans ((P0.fo D0 (.inr List.mem_cons_self)).trans I.at')
      have ev3 : Same (vis H (U Fo [D0]) A) (vis H3 (U Fo [D0]) A3) := by
        have := P3.ext
        rw [U_nil] at this
        exact (ev0.trans ev2).trans this
      have fo3 : ∀ x, Fo x → H3 x = H1 x := fun y hy => (P3.fo y (.inl hy)).trans ((P0.fo y (.inl hy)).trans (I.fo y hy))
      have S3 : SR G (U Fo [D0]) H3 σ2 c.2 A3 := P3.sr
      have acl : accV.length < sizeLine := by
        rw [I.acc.len]
        exact Nat.lt_of_le_of_lt I.len (Nat.lt_trans hlt hz)
      show if c.1 = true then _ else _
      by_cases hb : c.1 = true
      · rw [if_pos hb] at hgo ⊢
        refine ⟨U Fo [D0], A3, c.2, S3, Rs.sat_mono (Rs.sat_bind.mp hgo) fun r hgo H4 A4 B4 y P4 R4 => ?_⟩
        obtain ⟨d, sl5, A5, P5, S5, ry, hgo⟩ := settle1_go P4 R4 (Rs.sat_bind.mp hgo)
        obtain ⟨hcalm, hgo⟩ := if_sat hgo
        have hgo := Rs.sat_bind.mp hgo
        have at5 : H4 D0 = some (.lst accV) := (P5.fo D0 (.inr List.mem_cons_self)).trans at3
        refine ⟨accV, at5, acl, A5, sl5, accD ++ [d], accV ++ [y], ?_⟩
        have ev5 : Same (vis H (U Fo [D0]) A) (vis H4 (U Fo [D0]) A5) := by
          have := P5.ext
          rw [U_nil] at this
          exact ev3.trans this
        have eU : vis (upd H4 D0 (.lst (accV ++ [y]))) (U Fo [D0]) A5 = vis H4 (U Fo [D0]) A5 := hide_upd (.inl (.inr List.mem_cons_self))
        refine ⟨?_, upd_same, ?_, ?_, fun z hz => ?_, ?_, ?_⟩
        · have := (S5.wipe hcalm).hid (D0 := D0) (o := .lst (accV ++ [y])) (.inr List.mem_cons_self)
          rw [hw] at this
          exact this
        · rw [eU]
          exact (I.acc.mono ev5).app ⟨y, [], rfl, ry, rfl⟩
        · rw [eU]
          exact I.ext.trans ev5
        · rw [upd_ne (nD z hz)]
          exact (P5.fo z (.inl hz)).trans (fo3 z hz)
        · rw [List.length_append]
          have := I.len
          simp; omega
        · refine Rs.sat_mono hgo fun q k => ?_
          have k : K (accD ++ (d :: q.1), q.2) := k
          rw [List.append_assoc]
          exact k
      · rw [if_neg hb] at hgo ⊢
        obtain ⟨hcalm, hgo⟩ := if_sat hgo
        have hgo := Rs.sat_bind.mp hgo
        refine ⟨A3, c.2, accD, accV, ?_, at3, I.acc.mono ev3, I.ext.trans ev3, fo3, Nat.le_succ_of_le I.len, ?_⟩
        · have := S3.wipe hcalm
          rw [hw] at this
          exact this
        · exact Rs.sat_mono hgo fun q k => k
    · have e : i = ds.length := by omega
      subst e
      refine .inl ⟨W.stop _ H eH (Nat.le_refl _), ?_⟩
      have hgo := I.go
      rw [List.drop_length] at hgo
      have hgo : K (accD ++ [], sl) := hgo
      rw [List.append_nil] at hgo
      exact fin H A sl accD accV (SR.back I.sr S1 I.ext hc) I.at' I.acc I.ext I.fo hgo
theorem lc_i {own : List Nat} {tgt : Tgt} {pit : PI} {cond : POpt} {elt : PE} (hids : ∀ i ∈ tgt.ids, i ∈ own) {Q : VK} (h : tE G T cf (.lc own tgt pit cond elt) σ H Q) : tLc (tI G T cf pit) (tG G tgt) (tC' G T cf cond) (tE G T cf elt) own σ H Q := by
  obtain ⟨Fo, A, sl, S, h⟩ := h
  rw [evE_lc] at h
  refine ⟨Fo, A, sl, S, Rs.sat_mono (Rs.sat_bind.mp h) fun p h J H1 A1 P W D0 hD => ?_⟩
  obtain ⟨ds, sl1⟩ := p
  obtain ⟨⟨hc, hz⟩, h⟩ := if_satR h
  have S1 : SR G Fo H1 σ sl1 A1 := P.sr
  refine lc_loop hids S1 hc hz W hD (Rs.sat_bind.mp h) fun H' A' sl' accD accV S' at' rp ev fo k => ?_
  obtain ⟨_, k⟩ := if_sat k
  have k : KE G Fo A H σ Q (.fr (.lst accD), backS sl1 sl' own) := k
  have eP := P.ext
  rw [U_nil] at eP
  exact k H' A' [D0] (.ref D0) ⟨S', by simp, (fun x hx z => by
    have : x = D0 := by simpa using hx
    subst this
    exact S1.fa x z hD), eP.trans ev, fun x hx => (fo x hx).trans (P.fo x hx)⟩ ⟨D0, rfl, rfl, accV, at', rp⟩
theorem re_lc {elt iter : Expr} {ifs : List Expr} {scope : Scope} (own : List (Str × Nat)) {tgt : Tgt} {pit : PI} {cond : POpt} {pelt : PE} (hc : X.calm = true) (hN : X.N.Nodup) (hi : RI G T cf X tg iter pit) (ok : blkC X.N X.env.scope scope own = true)
    (hg : ∀ (s : Shared) (H : Hp) (C : Addr) (cl : List (Str × Addr)) (fp : List Addr), L2.PG (X.blk s H scope (compEnvC scope cl C X.env) fp) tg (tG G tgt)) (ht : ∀ (s : Shared) (H : Hp) (C : Addr) (cl : List (Str × Addr)) (fp : List Addr), L2.PTs (X.blk s H scope (compEnvC scope cl C X.env) fp) ifs (tC' G T cf cond))
    (he : ∀ (s : Shared) (H : Hp) (C : Addr) (cl : List (Str × Addr)) (fp : List Addr), RE G T cf (X.blk s H scope (compEnvC scope cl C X.env) fp) elt pelt) (hids : ∀ i ∈ tgt.ids, i ∈ own.map (·.2)) (hs : ∀ x, foldedSetIterable iter X.env x = pure x := by intro _; rfl) :
    RE G T cf X (.ListComp elt [⟨tg, iter, ifs, 0⟩] scope pos) (.lc (own.map (·.2)) tgt pit cond pelt) := PE.imp (pe_lc hc hN hi (blkOk_by ok) hg ht he hs) fun _ _ _ => lc_i hids
end
end Pf

/-! Pf11: statements; defs -/
namespace Pf
open PySem L2
theorem PS.imp {X : Cx} {e : Stmt} {t t' : TS} (h : L2.PS X e t) (k : ∀ D σ H, t' D σ H → t D σ H) : L2.PS X e t' := ⟨fun pins s σ H D I q => h.run pins s σ H D I (k D σ H q)⟩
theorem PSs.imp {X : Cx} {e : List Stmt} {t t' : TS} (h : L2.PSs X e t) (k : ∀ D σ H, t' D σ H → t D σ H) : L2.PSs X e t' := ⟨fun pins s σ H D I q => h.run pins s σ H D I (k D σ H q)⟩
structure Fw (G : Gx) (Fo : Fx) (A : Nat → List Addr) (H : Hp) (A' : Nat → List Addr) (H' : Hp) (σ' : L2.St) (sl' : Sls) : Prop where
  st : SR G Fo H' σ' sl' A'
  ext : Same (vis H Fo A) (vis H' Fo A')
  fo : ∀ x, Fo x → H' x = H x
structure Rt (G : Gx) (Fo : Fx) (A : Nat → List Addr) (H : Hp) (A' : Nat → List Addr) (H' : Hp) (σ' : L2.St) (sl' : Sls) (B : List Addr) (v : V) (r : Rv) : Prop where
  st : SR G (U Fo B) H' σ' sl' A'
  nd : B.Nodup
  out : ∀ x ∈ B, ¬ Fo x
  ext : Same (vis H Fo A) (vis H' (U Fo B) A')
  fo : ∀ x, Fo x → H' x = H x
  res : ResV G (vis H' (U Fo B) A') H' B v r
section
variable (G : Gx) (T : Tab) (cf : CF) (wf : Nat)
abbrev KS (Fo : Fx) (A : Nat → List Addr) (H : Hp) (D : Ends) (q : Fl × Sls) : Prop := match q.1 with
  | .nx => ∀ H' A' σ', Fw G Fo A H A' H' σ' q.2 → D.nx σ' H'
  | .brk => ∀ H' A' σ', Fw G Fo A H A' H' σ' q.2 → D.bk σ' H'
  | .ct => ∀ H' A' σ', Fw G Fo A H A' H' σ' q.2 → D.ct σ' H'
  | .ret r => ∀ H' A' σ' B v, Rt G Fo A H A' H' σ' q.2 B v r → D.rt v H'
def tS (p : PS) : TS := fun D σ H => ∃ Fo A sl, SR G Fo H σ sl A ∧ (evS T cf wf p sl).sat (KS G Fo A H D)
def tSs (p : PSs) : TS := fun D σ H => ∃ Fo A sl, SR G Fo H σ sl A ∧ (evSs T cf wf p sl).sat (KS G Fo A H D)
end
abbrev RS (G : Gx) (T : Tab) (cf : CF) (wf : Nat) (X : Cx) (s : Stmt) (p : PS) : Prop := L2.PS X s (tS G T cf wf p)
abbrev RSs (G : Gx) (T : Tab) (cf : CF) (wf : Nat) (X : Cx) (s : List Stmt) (p : PSs) : Prop := L2.PSs X s (tSs G T cf wf p)
section
variable {G : Gx} {T : Tab} {cf : CF} {wf : Nat} {Fo : Fx} {A A1 A2 A' : Nat → List Addr} {H H1 H2 H' Hs Hs' : Hp} {σ σ1 σ2 : L2.St} {sl sl1 sl2 sl' : Sls} {B B1 B2 B' : List Addr} {v : V} {r : Rv} {vs : List V} {rs : List Rv}
variable {X : Cx} {a b c e o tg it : Expr} {es : List Expr} {pa pb pc pe : PE} {ps : PEs} {pos p apos : Pos} {D : Ends} {st : Stmt} {sts : List Stmt} {p1 : PS} {p2 : PSs}
theorem Fw.refl (S : SR G Fo H σ sl A) : Fw G Fo A H A H σ sl := ⟨S, Same.refl _, fun _ _ => rfl⟩
theorem Fw.trans (a : Fw G Fo A H A1 H1 σ1 sl1) (b : Fw G Fo A1 H1 A2 H2 σ2 sl2) : Fw G Fo A H A2 H2 σ2 sl2 := ⟨b.st, a.ext.trans b.ext, fun x hx => (b.fo x hx).trans (a.fo x hx)⟩
theorem Fw.rt (a : Fw G Fo A H A1 H1 σ1 sl1) (b : Rt G Fo A1 H1 A2 H2 σ2 sl2 B v r) : Rt G Fo A H A2 H2 σ2 sl2 B v r := ⟨b.st, b.nd, b.out, a.ext.trans b.ext, fun x hx => (b.fo x hx).trans (a.fo x hx), b.res⟩
theorem Post.fw (P : Post G Fo A H [] A1 H1 σ sl1) : Fw G Fo A H A1 H1 σ sl1 := ⟨P.sr, by have := P.ext; rw [U_nil] at this; exact this, P.fo⟩
theorem KS.and {q : Fl × Sls} (f : Fw G Fo A H A1 H1 σ1 sl1) (k : KS G Fo A H D q) : KS G Fo A1 H1 D q := by
  obtain ⟨fl, s⟩ := q
  cases fl with
  | nx => exact fun H' A' σ' g => k H' A' σ' (f.trans g)
  | brk => exact fun H' A' σ' g => k H' A' σ' (f.trans g)
  | ct => exact fun H' A' σ' g => k H' A' σ' (f.trans g)
  | ret r => exact fun H' A' σ' B v g => k H' A' σ' B v (f.rt g)
theorem rs_pass : RS G T cf wf X (.Pass pos) .pass := PS.imp ps_pass fun D σ H h => by
  obtain ⟨Fo, A, sl, S, h⟩ := h
  rw [evS] at h
  exact (show KS G Fo A H D (.nx, sl) from h) H A σ (Fw.refl S)
theorem rs_doc {x j pos'} : RS G T cf wf X (.Expr (.Constant (.str x) j pos) pos') .doc := PS.imp ps_doc fun D σ H h => by
  obtain ⟨Fo, A, sl, S, h⟩ := h
  rw [evS] at h
  exact (show KS G Fo A H D (.nx, sl) from h) H A σ (Fw.refl S)
theorem rs_never : RS G T cf wf X st .never := PS.imp ps_never fun D σ H h => by
  obtain ⟨Fo, A, sl, S, h⟩ := h
  rw [evS] at h
  exact h.elim
theorem rs_ex (he : RE G T cf X e pe) (hs : swapsWith e none pos.line X.env = pure false := by rfl) : RS G T cf wf X (.Expr e pos) (.ex pe) := PS.imp (ps_expr he hs) fun D σ H h => by
  obtain ⟨Fo, A, sl, S, h⟩ := h
  rw [evS] at h
  exact ⟨Fo, A, sl, S, Rs.sat_mono (Rs.sat_bind.mp h) fun p k H1 A1 B v P R => (show KS G Fo A H D (.nx, p.2) from k) H1 A1 σ P.opn.1.fw⟩
/-- slot i's own thing is given away -/
theorem SR.take {i : Nat} {p : OP} (S : SR G Fo H σ sl A) (e : sl[i]? = some (Sl.ow true p)) : SR G (U Fo (A i)) H σ (sl.set i .un) (clrA A i) ∧ vis H (U Fo (A i)) (clrA A i) = vis H Fo A ∧ ∃ a, σ[i]? = some (some (.ref a)) ∧ Own G (vis H Fo A) H p a (A i) := by
  have eP : Hd (U Fo (A i)) (clrA A i) = Hd Fo A := funext fun x => propext ⟨fun z => by
    rcases z with (z | z) | ⟨j, z⟩
    · exact .inl z
    · exact .inr ⟨i, z⟩
    · exact .inr ⟨j, (mem_clrA z).1⟩, fun z => by
    rcases z with z | ⟨j, z⟩
    · exact .inl (.inl z)
    · by_cases q : j = i
      · subst q; exact .inl (.inr z)
      · exact .inr ⟨j, by rw [clrA_ne q]; exact z⟩⟩
  refine ⟨⟨by rw [List.length_set]; exact S.len, fun j d e' => ?_, fun j b' p' e' => ?_, fun j h => ?_, fun j => ?_, fun j k x n hx hy => ?_, fun j x hx z => ?_, fun x z => ?_, fun j p' e' => ?_⟩, by unfold vis; rw [eP], S.ow i true p e⟩
  · rcases get_set e' with ⟨z, z'⟩ | ⟨z, z'⟩
    · cases z'
    · rw [eP]; exact S.va j d z'
  · rcases get_set e' with ⟨z, z'⟩ | ⟨z, z'⟩
    · cases z'
    · rw [eP, clrA_ne z]; exact S.ow j b' p' z'
  · by_cases q : j = i
    · subst q; exact clrA_eq
    · rw [clrA_ne q]
      refine S.no j fun b' p' z => h b' p' ?_
      rw [List.getElem?_set_ne (Ne.symm q)]; exact z
  · by_cases q : j = i
    · subst q; rw [clrA_eq]; exact List.nodup_nil
    · rw [clrA_ne q]; exact S.nd j
  · exact S.dj j k x n (mem_clrA hx).1 (mem_clrA hy).1
  · obtain ⟨h1, h2⟩ := mem_clrA hx
    rcases z with z | z
    · exact S.fd j x h1 z
    · exact S.dj j i x h2 h1 z
  · rcases z with z | z
    · exact S.fa x z
    · obtain ⟨o, q⟩ := S.there z
      rw [q]; simp
  · rcases get_set e' with ⟨z, z'⟩ | ⟨z, z'⟩
    · cases z'
    · exact S.ro j p' z'
theorem rs_ret (he : RE G T cf X e pe) : RS G T cf wf X (.Return (some e) pos) (.ret pe) := PS.imp (ps_ret he) fun D σ H h => by
  obtain ⟨Fo, A, sl, S, h⟩ := h
  rw [evS] at h
  refine ⟨Fo, A, sl, S, Rs.sat_mono (Rs.sat_bind.mp h) fun p k H1 A1 B v P R => ?_⟩
  obtain ⟨r, s⟩ := p
  cases r with
  | va d => exact (show KS G Fo A H D (.ret (.va d), s) from k) H1 A1 σ B v ⟨P.st, P.nd, P.out, P.ext, P.fo, R⟩
  | fr q => exact (show KS G Fo A H D (.ret (.fr q), s) from k) H1 A1 σ B v ⟨P.st, P.nd, P.out, P.ext, P.fo, R⟩
  | s i =>
    obtain ⟨eB, eσ⟩ := R
    subst eB
    have S1 : SR G Fo H1 σ s A1 := P.sr
    have k : Rs.sat (match s[i]? with
      | some (.ow true q) => Rs.ok ((.ret (.fr q), s.set i .un) : Fl × Sls)
      | some (.va d) => .ok (.ret (.va d), s)
      | _ => .stuck) (KS G Fo A H D) := k
    cases ei : s[i]? with
    | none => rw [ei] at k; exact k.elim
    | some y =>
      rw [ei] at k
      cases y with
      | un => exact k.elim
      | va d =>
        obtain ⟨w, w1, w2⟩ := S1.va i d ei
        rw [eσ] at w1
        have w1 : v = w := by injection w1 with w1; injection w1
        subst w1
        exact (show KS G Fo A H D (.ret (.va d), s) from k) H1 A1 σ [] v ⟨P.st, P.nd, P.out, P.ext, P.fo, rfl, by rw [U_nil]; exact w2⟩
      | ow b q =>
        cases b with
        | false => exact k.elim
        | true =>
          obtain ⟨S2, eV, a, w1, w2⟩ := S1.take ei
          rw [eσ] at w1
          have w1 : v = .ref a := by injection w1 with w1; injection w1
          subst w1
          have eP := P.ext
          rw [U_nil] at eP
          exact (show KS G Fo A H D (.ret (.fr q), s.set i .un) from k) H1 _ σ (A1 i) (.ref a) ⟨S2, S1.nd i, S1.fd i, by rw [eV]; exact eP, P.fo, a, rfl, by rw [eV]; exact w2⟩
theorem rs_retN : RS G T cf wf X (.Return none pos) .retN := PS.imp ps_retN fun D σ H h => by
  obtain ⟨Fo, A, sl, S, h⟩ := h
  rw [evS] at h
  exact (show KS G Fo A H D (.ret (.va .non), sl) from h) H A σ [] .non ⟨by rw [U_nil]; exact S, List.nodup_nil, (fun _ h => absurd h List.not_mem_nil), by rw [U_nil]; exact Same.refl _, fun _ _ => rfl, rfl, rfl⟩
theorem rss_nil : RSs G T cf wf X [] .nil := PSs.imp pss_nil fun D σ H h => by
  obtain ⟨Fo, A, sl, S, h⟩ := h
  rw [evSs] at h
  exact (show KS G Fo A H D (.nx, sl) from h) H A σ (Fw.refl S)
theorem rss_cons (h1 : RS G T cf wf X st p1) (h2 : RSs G T cf wf X sts p2) : RSs G T cf wf X (st :: sts) (.cons p1 p2) := PSs.imp (pss_cons h1 h2) fun D σ H h => by
  obtain ⟨Fo, A, sl, S, h⟩ := h
  rw [evSs] at h
  refine ⟨Fo, A, sl, S, Rs.sat_mono (Rs.sat_bind.mp h) fun q k => ?_⟩
  obtain ⟨fl, s⟩ := q
  cases fl with
  | nx => exact fun H' A' σ' f => ⟨Fo, A', s, f.st, Rs.sat_mono (show (evSs T cf wf p2 s).sat _ from k) fun q k => KS.and f k⟩
  | brk => exact k
  | ct => exact k
  | ret r => exact k
theorem rs_ite {ss1 ss2 : List Stmt} {q1 q2 : PSs} (hc : RT G T cf X c pc) (h1 : RSs G T cf wf X ss1 q1) (h2 : RSs G T cf wf X ss2 q2) : RS G T cf wf X (.If c ss1 ss2 pos) (.ite pc q1 q2) := PS.imp (ps_if hc h1 h2) fun D σ H h => by
  obtain ⟨Fo, A, sl, S, h⟩ := h
  rw [evS] at h
  refine ⟨Fo, A, sl, S, Rs.sat_mono (Rs.sat_bind.mp h) fun q k H1 A1 P => ?_⟩
  show if q.1 = true then _ else _
  by_cases z : q.1 = true
  · rw [if_pos z] at k ⊢
    exact ⟨Fo, A1, q.2, P.sr, Rs.sat_mono k fun q k => KS.and P.fw k⟩
  · rw [if_neg z] at k ⊢
    exact ⟨Fo, A1, q.2, P.sr, Rs.sat_mono k fun q k => KS.and P.fw k⟩
/-! ### names are set -/
theorem asg_i {i : Nat} (h : tS G T cf wf (.asg i pe) D σ H) : tAsg (tE G T cf pe) (gName i) D σ H := by
  obtain ⟨Fo, A, sl, S, h⟩ := h
  rw [evS] at h
  refine ⟨Fo, A, sl, S, Rs.sat_mono (Rs.sat_bind.mp h) fun p k H1 A1 B v P R => ?_⟩
  show D.nx (σ.set i (some v)) H1
  obtain ⟨r, s⟩ := p
  have eP := P.ext
  have setV : ∀ (d : Pf.D) s2 A2, SR G Fo H1 σ s2 A2 → Same (vis H Fo A) (vis H1 Fo A2) → Rep G (vis H1 Fo A2) v d → ((setS s2 i (.va d)).bind fun sl => Rs.ok ((.nx, sl) : Fl × Sls)).sat (KS G Fo A H D) → D.nx (σ.set i (some v)) H1 := fun d s2 A2 S2 ev rp k => by
    obtain ⟨hi, k⟩ := setS_go (Rs.sat_bind.mp k)
    obtain ⟨S3, ev3⟩ := S2.setV hi rp
    exact (show KS G Fo A H D (.nx, s2.set i (.va d)) from k) H1 _ _ ⟨S3, ev.trans ev3, P.fo⟩
  cases r with
  | va d =>
    obtain ⟨P', S', ev⟩ := P.opn
    exact setV d s A1 S' P'.fw.ext (R.2.mono ev) k
  | fr q =>
    obtain ⟨hi, k⟩ := setS_go (Rs.sat_bind.mp k)
    obtain ⟨a, e1, w⟩ := R
    subst e1
    obtain ⟨S3, ev3⟩ := P.st.setO hi P.nd P.out w
    exact (show KS G Fo A H D (.nx, s.set i (.ow true q)) from k) H1 _ _ ⟨S3, P.ext.trans ev3, P.fo⟩
  | s j =>
    obtain ⟨d, sl2, A2, P2, S2, rp, k⟩ := settle1_go P R (Rs.sat_bind.mp (show Rs.sat (Rs.bind (Rs.of (settle s (.s j))) _) _ from k))
    exact setV d sl2 A2 S2 P2.fw.ext rp k
theorem rs_asg (i : Nat) {x : Str} {pos' : Pos} (hN : X.N.Nodup) (he : RE G T cf X e pe) (hi : X.N[i]? = some x := by rfl) (hx : Loc X.env.scope x := by first | exact Or.inl rfl | exact Or.inr rfl) (hs : swapsWith e (some (.Name x pos')) pos.line X.env = pure false := by rfl)
    (hf : X.fn x = true ∨ X.env.scope.names.lookup x = some .local := by first | exact .inl rfl | exact .inr rfl | assumption) : RS G T cf wf X (.Assign [.Name x pos'] e pos) (.asg i pe) := PS.imp (ps_set hN hi hx he hs hf) fun D σ H h => asg_i h
theorem rs_asgLc (i : Nat) {y : Str} {py spos : Pos} {elt iter : Expr} {ifs : List Expr} {scope : Scope} (own : List (Str × Nat)) {tgt : Tgt} {pit : PI} {cond : POpt} {pelt : PE} (hc : X.calm = true) (hN : X.N.Nodup)
    (hi : RI G T cf X tg iter pit) (ok : blkC X.N X.env.scope scope own = true)
    (hg : ∀ (s : Shared) (H : Hp) (C : Addr) (cl : List (Str × Addr)) (fp : List Addr), L2.PG (X.blk s H scope (compEnvC scope cl C X.env) fp) tg (tG G tgt)) (ht : ∀ (s : Shared) (H : Hp) (C : Addr) (cl : List (Str × Addr)) (fp : List Addr), L2.PTs (X.blk s H scope (compEnvC scope cl C X.env) fp) ifs (tC' G T cf cond))
    (he : ∀ (s : Shared) (H : Hp) (C : Addr) (cl : List (Str × Addr)) (fp : List Addr), RE G T cf (X.blk s H scope (compEnvC scope cl C X.env) fp) elt pelt) (hids : ∀ i ∈ tgt.ids, i ∈ own.map (·.2)) (hy : X.N[i]? = some y := by rfl) (hyl : X.env.scope.names.lookup y = some .local := by rfl)
    (hk : X.env.scope.kind = .function := by rfl) (hl : (py.line == pos.line) = true := by rfl) (hn : (scope.names.any fun (n, k) => n == y && (k == .local || k == .cell)) = false := by rfl)
    (hs : ∀ x, foldedSetIterable iter X.env x = pure x := by intro _; rfl) :
    RS G T cf wf X (.Assign [.Name y py] (.ListComp elt [⟨tg, iter, ifs, 0⟩] scope pos) spos) (.asg i (.lc (own.map (·.2)) tgt pit cond pelt)) :=
  PS.imp (ps_setLc hc hN hy hyl (sw_true hk hyl hl hn) hi (blkOk_by ok) hg ht he hs) fun D σ H h => lc_i hids (asg_i h)
theorem rs_asgT {is : List Nat} {tes : List Expr} {tk : Nat} {tpos : Pos} (he : RE G T cf X e pe) (hg : L2.PG X (.Tuple tes tk tpos) (tG G (.many is))) (hs : swapsWithSole [.Tuple tes tk tpos] e pos.line X.env = pure false := by rfl) (hw : swappedStores [.Tuple tes tk tpos] e X.env = pure none := by rfl) :
    RS G T cf wf X (.Assign [.Tuple tes tk tpos] e pos) (.asgT is pe) := PS.imp (ps_asg he hg hs hw) fun D σ H h => by
  obtain ⟨Fo, A, sl, S, h⟩ := h
  rw [evS] at h
  refine ⟨Fo, A, sl, S, Rs.sat_mono (Rs.sat_bind.mp h) fun p k H1 A1 B v P R => ?_⟩
  obtain ⟨d, sl2, A2, P2, S2, rp, k⟩ := settle1_go P R (Rs.sat_bind.mp k)
  cases d <;> first | exact (show False from k).elim | skip
  rename_i ds
  exact ⟨Fo, A2, sl2, .tup ds, S2, rp, Rs.sat_mono (Rs.sat_bind.mp (show Rs.sat (Rs.bind (setAll sl2 is ds) _) _ from k)) fun sl3 k σ' A' S3 ev _ => (show KS G Fo A H D (.nx, sl3) from k) H1 A' σ' ⟨S3, P2.fw.ext.trans ev, P2.fw.fo⟩⟩
theorem aug_i {i : Nat} {op : BOp} {f : Int → Int → Int} (hop : ∀ x y, (match (some (.va (.int x)) : Option Sl), op with
    | some (.va (.int x)), .add => (Rs.ok (x + y) : Rs Int)
    | some (.va (.int x)), .sub => .ok (x - y)
    | _, _ => .stuck) = .ok (f x y)) (h : tS G T cf wf (.aug i op pe) D σ H) : tAug i (tE G T cf pe) (ipI f) D σ H := by
  obtain ⟨Fo, A, sl, S, h⟩ := h
  rw [evS] at h
  have h := Rs.sat_bind.mp h
  have key : ∃ x : Int, sl[i]? = some (.va (.int x)) := by
    cases ev : evE T cf pe sl with
    | stuck => rw [ev] at h; exact h.elim
    | ok p =>
      rw [ev] at h
      obtain ⟨d, _, h⟩ := Rs.of_sat (Rs.sat_bind.mp (show Rs.sat (Rs.bind (Rs.of (view p.2 p.1)) _) _ from h))
      cases d <;> first | exact (show False from h).elim | skip
      rename_i y
      cases ei : sl[i]? with
      | none => simp only [ei] at h; exact (show False from h).elim
      | some z =>
        cases z with
        | un => simp only [ei] at h; exact (show False from h).elim
        | ow _ _ => simp only [ei] at h; exact (show False from h).elim
        | va d => cases d <;> first | exact ⟨_, rfl⟩ | (simp only [ei] at h; exact (show False from h).elim)
  obtain ⟨x, ei⟩ := key
  obtain ⟨w, w1, w2⟩ := S.va i _ ei
  have w2 : w = .int x := w2
  subst w2
  refine ⟨.int x, w1, Fo, A, sl, S, Rs.sat_mono h fun p k H1 A1 B v P R => ?_⟩
  obtain ⟨d, e2, k⟩ := Rs.of_sat (Rs.sat_bind.mp k)
  obtain ⟨P', S', ev⟩ := P.opn
  have rv := R.view P.st e2
  cases d <;> first | exact (show False from k).elim | skip
  rename_i y
  have rv : v = .int y := rv
  refine ⟨x, y, rfl, rv, ?_⟩
  have k2 : ((setS p.2 i (.va (.int (f x y)))).bind fun sl => Rs.ok ((.nx, sl) : Fl × Sls)).sat (KS G Fo A H D) := by
    have k : Rs.sat (match sl[i]?, op with
      | some (.va (.int x)), .add => (setS p.2 i (.va (.int (x + y)))).bind fun sl => Rs.ok ((.nx, sl) : Fl × Sls)
      | some (.va (.int x)), .sub => (setS p.2 i (.va (.int (x - y)))).bind fun sl => .ok (.nx, sl)
      | _, _ => .stuck) (KS G Fo A H D) := k
    rw [ei] at k
    have hx := hop x y
    cases op <;> first | exact (show False from k).elim | skip
    · have hx : x + y = f x y := by injection hx
      rw [← hx]; exact k
    · have hx : x - y = f x y := by injection hx
      rw [← hx]; exact k
  obtain ⟨hi, k3⟩ := setS_go (Rs.sat_bind.mp k2)
  obtain ⟨S3, ev3⟩ := S'.setV (v := .int (f x y)) (d := .int (f x y)) hi rfl
  exact (show KS G Fo A H D (.nx, p.2.set i (.va (.int (f x y)))) from k3) H1 _ _ ⟨S3, P'.fw.ext.trans ev3, P.fo⟩
theorem rs_augAdd (i : Nat) {x : Str} {pos' : Pos} (hN : X.N.Nodup) (he : RE G T cf X e pe) (hi : X.N[i]? = some x := by rfl) (hx : Loc X.env.scope x := by first | exact Or.inl rfl | exact Or.inr rfl)
    (hf : X.fn x = true ∨ X.env.scope.names.lookup x = some .local := by first | exact .inl rfl | exact .inr rfl | assumption) : RS G T cf wf X (.AugAssign (.Name x pos') .Add e pos) (.aug i .add pe) := PS.imp (ps_aug hN hi hx he ip_add hf) fun D σ H h => aug_i (f := fun i j => i + j) (fun _ _ => rfl) h
theorem rs_augSub (i : Nat) {x : Str} {pos' : Pos} (hN : X.N.Nodup) (he : RE G T cf X e pe) (hi : X.N[i]? = some x := by rfl) (hx : Loc X.env.scope x := by first | exact Or.inl rfl | exact Or.inr rfl)
    (hf : X.fn x = true ∨ X.env.scope.names.lookup x = some .local := by first | exact .inl rfl | exact .inr rfl | assumption) : RS G T cf wf X (.AugAssign (.Name x pos') .Sub e pos) (.aug i .sub pe) := PS.imp (ps_aug hN hi hx he ip_sub hf) fun D σ H h => aug_i (f := fun i j => i - j) (fun _ _ => rfl) h
end
end Pf

/-! Pf12: items and fields are set; loops; defs -/
namespace Pf
open PySem L2
section
variable {G : Gx} {T : Tab} {cf : CF} {wf : Nat} {Fo : Fx} {A A1 A2 A' : Nat → List Addr} {H H1 H2 H' Hs Hs' : Hp} {σ σ1 σ2 : L2.St} {sl sl1 sl2 sl' : Sls} {B B1 B2 B' : List Addr} {v : V} {r : Rv} {vs : List V} {rs : List Rv}
variable {X : Cx} {a b c e o tg it : Expr} {es : List Expr} {pa pb pc pe : PE} {ps : PEs} {pos p apos : Pos} {E : Ends} {st : Stmt} {sts : List Stmt} {p1 : PS} {p2 : PSs}
theorem Post.opnR (P : Post G Fo A H (B1 ++ B2) A1 H1 σ sl1) : Post G Fo A H B1 A1 H1 σ sl1 ∧ Same (vis H1 (U Fo (B1 ++ B2)) A1) (vis H1 (U Fo B1) A1) := by
  have st := P.st
  rw [← U_app] at st
  obtain ⟨nd1, nd2, dj⟩ := List.nodup_append.mp P.nd
  obtain ⟨S, ev, _⟩ := st.open' fun x hx z => by
    rcases z with z | z
    · exact P.out x (List.mem_append_right _ hx) z
    · exact dj x z x hx rfl
  rw [U_app] at ev
  exact ⟨⟨S, nd1, fun x hx => P.out x (List.mem_append_left _ hx), P.ext.trans ev, P.fo⟩, ev⟩
theorem rs_setix {tpos : Pos} (ho : RE G T cf X a pa) (hb : RE G T cf X b pb) (he : RE G T cf X e pe) (hs : swapsWithSole [.Subscript a b tpos] e pos.line X.env = pure false := by rfl) (hw : swappedStores [.Subscript a b tpos] e X.env = pure none := by rfl)
    (hst : ∀ v, assign (.Subscript a b tpos) X.env v = (do
      let ov ← holding [v] (eval a X.env)
      let iv ← holding [v, ov] (eval b X.env)
      standAt tpos
      holding [v, ov, iv] (setItem ov iv v)
      release [v, ov, iv] []) := by intro _; rfl) (h1 : (assignEach [.Subscript a b tpos] X.env).map (·.2) = [assign (.Subscript a b tpos) X.env] := by rfl) :
    RS G T cf wf X (.Assign [.Subscript a b tpos] e pos) (.setix pa pb pe) := PS.imp (ps_asg he (pg_sub ho hb set_list hst) hs hw h1) fun D σ H h => by
  obtain ⟨Fo, A, sl, S, h⟩ := h
  rw [evS] at h
  refine ⟨Fo, A, sl, S, Rs.sat_mono (Rs.sat_bind.mp h) fun p h H1 A1 B1 v P1 R1 => ⟨U Fo B1, A1, p.2, P1.st, Rs.sat_mono (Rs.sat_bind.mp h) fun o h H2 A2 B2 x P2 R2 => ?_⟩⟩
  have P12 := P1.trans P2
  have R1' := R1.later P2
  rw [U_app] at R1' R2
  refine ⟨U Fo (B1 ++ B2), A2, o.2, P12.st, Rs.sat_mono (Rs.sat_bind.mp h) fun q h H3 A3 B3 y P3 R3 => ?_⟩
  have P := P12.trans P3
  have R2' : RvR G (vis H3 (U (U Fo (B1 ++ B2)) B3) A3) H3 σ B2 x o.1 := R2.mono P3.ext fun z hz => P3.fo z (.inr (List.mem_append_right _ hz))
  have R1'' : RvR G (vis H3 (U (U Fo (B1 ++ B2)) B3) A3) H3 σ B1 v p.1 := R1'.mono P3.ext fun z hz => P3.fo z (.inr (List.mem_append_left _ hz))
  rw [U_app] at R1'' R2' R3
  have P' := P
  rw [List.append_assoc] at P'
  obtain ⟨P4, ev4⟩ := P'.opnR
  rw [← List.append_assoc] at ev4
  obtain ⟨z, ez, h⟩ := Rs.of_sat (Rs.sat_bind.mp h)
  obtain ⟨d, sl5⟩ := z
  obtain ⟨A5, S5, ev5, rp⟩ := (RvR.same ev4 R1'').settle P4.st P4.out ez
  have P5 := P4.settled S5 ev5
  obtain ⟨xs, ex, h⟩ := Rs.of_sat (Rs.sat_bind.mp h)
  obtain ⟨k, ek, h⟩ := Rs.of_sat (Rs.sat_bind.mp h)
  have ek' : view q.2 q.1 = some k := ((settle_view ez).2 q.1).symm.trans ek
  have rk := R3.view P.st ek'
  obtain ⟨i, ei⟩ : ∃ i, k = .int i := by
    cases k <;> first | exact ⟨_, rfl⟩ | exact (show False from h).elim
  subst ei
  have rk : y = .int i := rk
  obtain ⟨j, ej, h⟩ := Rs.of_sat (Rs.sat_bind.mp h)
  obtain ⟨o1, o2⟩ := o
  cases o1 with
  | va _ => cases ex
  | fr _ => cases ex
  | s n =>
    simp only [ownL] at ex
    cases en : sl5[n]? with
    | none => rw [en] at ex; cases ex
    | some w =>
      rw [en] at ex
      cases w <;> first | (cases ex; done) | skip
      rename_i b pp
      cases pp <;> first | (cases ex; done) | skip
      cases ex
      obtain ⟨a, w1, hA, us, hH, rpu⟩ := S5.ow n b _ en
      have w3 := R2'.2
      rw [w1] at w3
      have w3 : x = .ref a := by injection w3 with w3; injection w3 with w3; exact w3.symm
      have h : KS G Fo A H D (.nx, setL sl5 (xs.set j d) (.s n)) := h
      have eS : setL sl5 (xs.set j d) (.s n) = sl5.set n (.ow b (.lst (xs.set j d))) := by simp only [setL, en]
      rw [eS] at h
      obtain ⟨S6, ev6, fo6⟩ := chg (us := us) S5 en w1 hA (rpu.set rp j)
      exact ⟨a, us, i, j, w3, rk, hH, by rw [rpu.len]; exact ej, h _ _ σ ⟨S6, P5.fw.ext.trans ev6, fun z hz => (fo6 z hz).trans (P5.fo z hz)⟩⟩
theorem OwnF.len : ∀ {fs : List (Nat × F)} {gs : List (Str × V)} {B : List Addr}, OwnF G Hs H fs gs B → gs.length = fs.length := fun h => by
  have := congrArg List.length h.names
  simpa using this
theorem ownF_put {f : Nat} {v : V} {d : D} (k : Rep G Hs v d) : ∀ {fs : List (Nat × F)} {gs : List (Str × V)} {B : List Addr}, OwnF G Hs H fs gs B → ∃ B', List.Sublist B' B ∧ OwnF G Hs H (putA f (.fz d) fs) (putF (G.FN f) v gs) B'
  | [], gs, B, h => by
    obtain ⟨e1, e2⟩ := h
    subst e1 e2
    exact ⟨[], List.Sublist.refl _, v, [], rfl, k, rfl, rfl⟩
  | (g, x) :: fs, gs, B, h => by
    by_cases q : f = g
    · subst q
      cases x with
      | fz d0 =>
        obtain ⟨w, r, e1, e2, e3⟩ := h
        subst e1
        refine ⟨B, List.Sublist.refl _, ?_⟩
        unfold putA putF
        rw [if_pos rfl, if_pos rfl]
        exact ⟨v, r, rfl, k, e3⟩
      | ol ds =>
        obtain ⟨l, us, r, B', e1, e2, e3, e4, e5⟩ := h
        subst e1 e2
        refine ⟨B', List.sublist_cons_self _ _, ?_⟩
        unfold putA putF
        rw [if_pos rfl, if_pos rfl]
        exact ⟨v, r, rfl, k, e5⟩
    · have q2 : ¬ G.FN g = G.FN f := fun z => q (G.fi _ _ z.symm)
      cases x with
      | fz d0 =>
        obtain ⟨w, r, e1, e2, e3⟩ := h
        subst e1
        obtain ⟨B', z1, z2⟩ := ownF_put k e3
        refine ⟨B', z1, ?_⟩
        unfold putA putF
        rw [if_neg q, if_neg q2]
        exact ⟨w, _, rfl, e2, z2⟩
      | ol ds =>
        obtain ⟨l, us, r, B0, e1, e2, e3, e4, e5⟩ := h
        subst e1 e2
        obtain ⟨B', z1, z2⟩ := ownF_put k e5
        refine ⟨l :: B', List.Sublist.cons₂ _ z1, ?_⟩
        unfold putA putF
        rw [if_neg q, if_neg q2]
        exact ⟨l, us, _, B', rfl, rfl, e3, e4, z2⟩
theorem rs_setfld (i : Nat) {ci f : Nat} {fn x : Str} {px pos' : Pos} (he : RE G T cf X e pe) (hc : Cls X.K (G.CA ci)) (hn : NoAttr X.K (G.CA ci) fn) (hf : G.FN f = fn) (hN : X.N[i]? = some x := by rfl) (hv : Vis X.env.scope x := by first | exact Or.inl rfl | exact Or.inr (Or.inl rfl) | exact Or.inr (Or.inr rfl))
    (hd : (x == ("__debug__" : Str)) = false := by decide) (hcd : (x == ("__classdict__" : Str)) = false := by decide) (hs : swapsWith e (some (.Attribute (.Name x px) fn pos')) pos.line X.env = pure false := by rfl) :
    RS G T cf wf X (.Assign [.Attribute (.Name x px) fn pos'] e pos) (.setfld i ci f pe) := PS.imp (ps_fld (pe_var hN hv hd hcd) he hs) fun D σ H h => by
  obtain ⟨Fo, A, sl, S, h⟩ := h
  rw [evS] at h
  refine ⟨Fo, A, sl, S, Rs.sat_mono (Rs.sat_bind.mp h) fun p h H1 A1 B1 v P1 R1 => ?_⟩
  obtain ⟨d, sl2, A2, P2, S2, rp, h⟩ := settle1_go P1 R1 (Rs.sat_bind.mp h)
  have h : Rs.sat (match sl2[i]? with
      | some (.ow b (.obj c' fs)) => if c' = ci ∧ fs.length < 1000 then Rs.ok ((.nx, sl2.set i (.ow b (.obj ci (putA f (.fz d) fs)))) : Fl × Sls) else .stuck
      | _ => .stuck) (KS G Fo A H D) := h
  cases ei : sl2[i]? with
  | none => rw [ei] at h; exact h.elim
  | some w =>
    rw [ei] at h
    cases w <;> first | exact (show False from h).elim | skip
    rename_i b pp
    cases pp <;> first | exact (show False from h).elim | skip
    rename_i c' fs
    obtain ⟨⟨z1, z2⟩, h2⟩ := if_sat h
    clear h
    subst z1
    obtain ⟨a, w1, dx, gs, B', hA, hH, ow⟩ := S2.ow i b _ ei
    obtain ⟨B'', sb, ow2⟩ := ownF_put (f := f) rp ow
    have ndA := S2.nd i
    rw [hA] at ndA
    have nda : a ∉ B' := (List.nodup_cons.mp ndA).1
    have ndB : (a :: B'').Nodup := List.Nodup.sublist (List.Sublist.cons₂ _ sb) ndA
    have kk : ∀ y o, y ∉ A2 i → H1 y = some o → upd H1 a (.ins (G.CA c') dx (putF (G.FN f) v gs)) y = some o := fun y o n q => by
      rw [upd_ne fun z => n (by rw [hA, z]; exact List.mem_cons_self)]
      exact q
    have hB : ∀ y ∈ a :: B'', y ∈ A2 i ∨ H1 y = none := fun y hy => .inl (by
      rw [hA]
      rcases List.mem_cons.mp hy with z | z
      · rw [z]; exact List.mem_cons_self
      · exact List.mem_cons_of_mem _ (sb.subset z))
    have ev : Same (vis H1 Fo A2) (vis (upd H1 a (.ins (G.CA c') dx (putF (G.FN f) v gs))) Fo (putB A2 i (a :: B''))) := hide_same fun y o n q => ⟨fun z => by
      rcases z with z | ⟨j, z⟩
      · exact n (.inl z)
      · rcases mem_putB z with ⟨_, z⟩ | ⟨_, z⟩
        · rcases hB y z with z | z
          · exact n (.inr ⟨i, z⟩)
          · rw [z] at q; cases q
        · exact n (.inr ⟨j, z⟩), kk y o (fun z => n (.inr ⟨i, z⟩)) q⟩
    obtain ⟨S3, _, fo3⟩ := S2.change (p' := .obj c' (putA f (.fz d) fs)) ei w1 ndB hB kk ⟨dx, _, B'', rfl, upd_same, ow2.mono ev fun y hy => upd_ne fun z => nda (by rw [← z]; exact sb.subset hy)⟩
    refine ⟨.ref a, w1, a, _, dx, gs, rfl, hH, hc, hn, by rw [ow.len]; exact z2, ?_⟩
    rw [← hf]
    exact (show KS G Fo A H D (.nx, sl2.set i (.ow b (.obj c' (putA f (.fz d) fs)))) from h2) _ _ σ ⟨S3, P2.fw.ext.trans ev, fun y hy => (fo3 y hy).trans (P2.fo y hy)⟩
/-! ### loops -/
theorem for_i {tgt : Tgt} {pit : PI} (h : tS G T cf wf (.for tgt pit p2) E σ H) : tFor (tI G T cf pit) (tG G tgt) (tSs G T cf wf p2) E σ H := by
  obtain ⟨Fo, A, sl, S, h⟩ := h
  rw [evS] at h
  refine ⟨Fo, A, sl, S, Rs.sat_mono (Rs.sat_bind.mp h) fun p h J H1 A1 P W => ?_⟩
  obtain ⟨ds, sl1⟩ := p
  have h : (forLoop (fun d sl => (giveT tgt d sl).bind fun sl => evSs T cf wf p2 sl) ds sl1).sat (KS G Fo A1 H1 E) := Rs.sat_mono h fun q k => KS.and P.fw k
  refine ⟨fun i m σ H => m = ds.length - i ∧ i ≤ ds.length ∧ ∃ A sl, Fw G Fo A1 H1 A H σ sl ∧ (forLoop (fun d sl => (giveT tgt d sl).bind fun sl => evSs T cf wf p2 sl) (ds.drop i) sl).sat (KS G Fo A1 H1 E), ⟨_, rfl, Nat.zero_le _, A1, sl1, Fw.refl P.sr, h⟩, ?_⟩
  rintro i m σ H ⟨rfl, hi, A, sl, f, go⟩
  have eH : Same (vis H1 Fo A1) H := f.ext.trans hide_sub
  by_cases hlt : i < ds.length
  · refine .inr ⟨W.go i H eH hlt, fun σ' H' => ∃ A sl, Fw G Fo A1 H1 A H' σ' sl ∧ (forLoop (fun d sl => (giveT tgt d sl).bind fun sl => evSs T cf wf p2 sl) (ds.drop (i + 1)) sl).sat (KS G Fo A1 H1 E), fun σ' H' q => ⟨ds.length - (i + 1), by omega, rfl, hlt, q⟩, fun x H' yl => ?_⟩
    have ed : ds[i]? = some ds[i] := by simp [hlt]
    obtain ⟨gr, rp⟩ := W.yld i H x H' ds[i] eH yl ed
    rw [List.drop_eq_getElem_cons hlt] at go
    unfold forLoop at go
    have go := Rs.sat_bind.mp (Rs.sat_bind.mp go)
    have P0 := f.st.grow gr List.nodup_nil fun _ h => absurd h List.not_mem_nil
    have f0 := f.trans P0.fw
    have rx := rp (Hd Fo A) (fun y hy => by
      rcases hy with hy | ⟨j, hy⟩
      · exact f.st.fa y hy
      · obtain ⟨o, e⟩ := f.st.there hy
        rw [e]; simp) f.ext
    refine ⟨Fo, A, sl, ds[i], P0.sr, rx, Rs.sat_mono go fun sl2 go σ2 A2 S2 ev2 _ => ⟨Fo, A2, sl2, S2, Rs.sat_mono go fun q k => ?_⟩⟩
    have f2 : Fw G Fo A1 H1 A2 H' σ2 sl2 := ⟨S2, f0.ext.trans ev2, f0.fo⟩
    obtain ⟨fl, s⟩ := q
    cases fl with
    | nx => exact fun H3 A3 σ3 f3 => ⟨A3, s, f2.trans f3, k⟩
    | ct => exact fun H3 A3 σ3 f3 => ⟨A3, s, f2.trans f3, k⟩
    | brk => exact fun H3 A3 σ3 f3 => (show KS G Fo A1 H1 E (.nx, s) from k) H3 A3 σ3 (f2.trans f3)
    | ret r => exact fun H3 A3 σ3 B v f3 => (show KS G Fo A1 H1 E (.ret r, s) from k) H3 A3 σ3 B v (f2.rt f3)
  · have e : i = ds.length := by omega
    subst e
    rw [List.drop_length] at go
    exact .inl ⟨W.stop _ H eH (Nat.le_refl _), (show KS G Fo A1 H1 E (.nx, sl) from go) H A σ f⟩
theorem rs_for {body : List Stmt} {tgt : Tgt} {pit : PI} (hp : PassesOwn (model X.prog X.w) X.A X.env X.xe) (hc : X.calm = true) (hi : RI G T cf X tg it pit) (hg : L2.PG X tg (tG G tgt)) (hb : RSs G T cf wf X body p2) (hs : ∀ x, foldedSetIterable it X.env x = pure x := by intro _; rfl) :
    RS G T cf wf X (.For tg it body [] pos) (.for tgt pit p2) := PS.imp (ps_for hp hc hi hg hb hs) fun D σ H h => for_i h
theorem whl_i {n : Nat} (Fo : Fx) (A1 : Nat → List Addr) (H1 : Hp) : ∀ n, ∀ A H σ sl, Fw G Fo A1 H1 A H σ sl → (whlLoop (fun sl => evT T cf pc sl) (fun sl => evSs T cf wf p2 sl) n sl).sat (KS G Fo A1 H1 E) → 
    tT G T cf pc σ H fun b H2 => if b = true then ∃ N : L2.St → Hp → Prop, (∀ σ' H', N σ' H' → ∃ m, m < n ∧ ∃ A sl, Fw G Fo A1 H1 A H' σ' sl ∧ (whlLoop (fun sl => evT T cf pc sl) (fun sl => evSs T cf wf p2 sl) m sl).sat (KS G Fo A1 H1 E)) ∧ tSs G T cf wf p2 { E with nx := N, ct := N, bk := E.nx } σ H2 else E.nx σ H2 := by
  intro n A H σ sl f h
  cases n with
  | zero => exact h.elim
  | succ n =>
    unfold whlLoop at h
    refine ⟨Fo, A, sl, f.st, Rs.sat_mono (Rs.sat_bind.mp h) fun b k H2 A2 P => ?_⟩
    show if b.1 = true then _ else _
    by_cases z : b.1 = true
    · rw [if_pos z] at k ⊢
      refine ⟨fun σ' H' => ∃ A sl, Fw G Fo A1 H1 A H' σ' sl ∧ (whlLoop (fun sl => evT T cf pc sl) (fun sl => evSs T cf wf p2 sl) n sl).sat (KS G Fo A1 H1 E), fun σ' H' q => ⟨n, Nat.lt_succ_self n, q⟩, Fo, A2, b.2, P.sr, Rs.sat_mono (Rs.sat_bind.mp k) fun q k => ?_⟩
      have f2 := f.trans P.fw
      obtain ⟨fl, s⟩ := q
      cases fl with
      | nx => exact fun H3 A3 σ3 f3 => ⟨A3, s, f2.trans f3, k⟩
      | ct => exact fun H3 A3 σ3 f3 => ⟨A3, s, f2.trans f3, k⟩
      | brk => exact fun H3 A3 σ3 f3 => (show KS G Fo A1 H1 E (.nx, s) from k) H3 A3 σ3 (f2.trans f3)
      | ret r => exact fun H3 A3 σ3 B v f3 => (show KS G Fo A1 H1 E (.ret r, s) from k) H3 A3 σ3 B v (f2.rt f3)
    · rw [if_neg z] at k ⊢
      exact (show KS G Fo A1 H1 E (.nx, b.2) from k) H2 A2 σ (f.trans P.fw)
theorem rs_whl {body : List Stmt} (hp : PassesOwn (model X.prog X.w) X.A X.env X.xe) (hc : RT G T cf X c pc) (hb : RSs G T cf wf X body p2) : RS G T cf wf X (.While c body [] pos) (.whl pc p2) := PS.imp (ps_while hp hc hb) fun D σ H h => by
  obtain ⟨Fo, A, sl, S, h⟩ := h
  rw [evS] at h
  refine ⟨fun m σ' H' => ∃ A' sl', Fw G Fo A H A' H' σ' sl' ∧ (whlLoop (fun sl => evT T cf pc sl) (fun sl => evSs T cf wf p2 sl) m sl').sat (KS G Fo A H D), ⟨wf, A, sl, Fw.refl S, h⟩, fun m σ' H' ⟨A', sl', f, k⟩ => ?_⟩
  exact whl_i (n := 0) Fo A H m A' H' σ' sl' f k
/-! ### defs -/
theorem SR.ext (S : SR G Fo H (vs.map some) sl A) (n : Nat) : SR G Fo H (vs.map some ++ List.replicate n none) (sl ++ List.replicate n .un) A := by
  have hl : vs.length = sl.length := by have := S.len; simpa using this
  have g : ∀ (j : Nat) x, (sl ++ List.replicate n Sl.un)[j]? = some x → x = .un ∨ sl[j]? = some x := fun j x e => by
    by_cases l : j < sl.length
    · rw [List.getElem?_append_left l] at e; exact .inr e
    · rw [List.getElem?_append_right (Nat.le_of_not_lt l), List.getElem?_replicate] at e
      split at e
      · exact .inl (Option.some.inj e).symm
      · cases e
  have gσ : ∀ (j : Nat) x, sl[j]? = some x → (vs.map some ++ List.replicate n none)[j]? = (vs.map some)[j]? := fun j x e => List.getElem?_append_left (by rw [List.length_map, hl]; exact (List.getElem?_eq_some_iff.mp e).1)
  refine ⟨by simp [hl], fun j d e => ?_, fun j b p e => ?_, fun j h => S.no j fun b p z => h b p ?_, S.nd, S.dj, S.fd, S.fa, fun j p e => ?_⟩
  · rcases g j _ e with z | z
    · cases z
    · rw [gσ j _ z]; exact S.va j d z
  · rcases g j _ e with z | z
    · cases z
    · rw [gσ j _ z]; exact S.ow j b p z
  · rw [List.getElem?_append_left (List.getElem?_eq_some_iff.mp z).1]; exact z
  · rcases g j _ e with z | z
    · cases z
    · rw [gσ j _ z]; exact S.ro j p z
theorem endIo_go {io : Option Nat} {Q : Option OP → Prop} (h : (endIo io sl).sat Q) : match io with
    | none => Q none
    | some k => ∃ p, sl[k]? = some (.ow false p) ∧ Q (some p) := by
  cases io with
  | none => exact h
  | some k =>
    have h : Rs.sat (match sl[k]? with
      | some (.ow false p) => .ok (some p)
      | _ => .stuck) Q := h
    cases e : sl[k]? with
    | none => rw [e] at h; exact h.elim
    | some x =>
      rw [e] at h
      cases x with
      | un => exact h.elim
      | va _ => exact h.elim
      | ow b p =>
        cases b with
        | true => exact h.elim
        | false => exact ⟨p, e, h⟩
/-- what is known when a body has ended -/
theorem end_go {io : Option Nat} {as : List Sl} {q : Rv} {σ' : L2.St} (S : SR G Fo H (vs.map some) as A) (hio : (endIo io as).sat fun _ => True) (R : Rt G Fo A H A' H' σ' sl' B v q) {Q : Option OP → Prop} (h : (endIo io sl').sat Q) :
    ∃ p C, PostC G Fo H vs A io (q, p) H' B C v ∧ Q p := by
  have h1 := endIo_go hio
  have h2 := endIo_go h
  have mk : ∀ (C : List Addr), (∀ x ∈ C, ∃ j, x ∈ A' j) → C.Nodup → ∀ p, (match io, p with
    | none, none => C = []
    | some k, some p => ∃ a, vs[k]? = some (.ref a) ∧ Own G (vis H' (U Fo B) A') H' p a C
    | _, _ => False) → PostC G Fo H vs A io (q, p) H' B C v := fun C hC nd p hp => by
    have sub : Same (vis H' (U Fo B) A') (hide H' (U Fo (B ++ C)).fo) := hide_mono fun x z => by
      rcases z with z | z
      · exact .inl (.inl z)
      · rcases List.mem_append.mp z with z | z
        · exact .inl (.inr z)
        · exact .inr (hC x z)
    refine ⟨List.nodup_append.mpr ⟨R.nd, nd, fun x hx y hy e => ?_⟩, fun x hx z => ?_, R.ext.trans sub, R.fo, ?_, ?_⟩
    · subst e
      obtain ⟨j, hj⟩ := hC x hy
      exact R.st.fd j x hj (.inr hx)
    · rcases List.mem_append.mp hx with w | w
      · exact R.out x w z
      · obtain ⟨j, hj⟩ := hC x w
        exact R.st.fd j x hj (.inl z)
    · cases q with
      | va d => exact ⟨R.res.1, R.res.2.mono sub⟩
      | fr p =>
        obtain ⟨a, e1, o⟩ := R.res
        exact ⟨a, e1, o.mono sub fun _ _ => rfl⟩
      | s i => exact R.res.elim
    · cases io with
      | none => cases p with
        | none => exact hp
        | some _ => exact hp.elim
      | some k => cases p with
        | none => exact hp.elim
        | some p =>
          obtain ⟨a, e1, o⟩ := hp
          exact ⟨a, e1, o.mono sub fun _ _ => rfl⟩
  cases io with
  | none => exact ⟨none, [], mk [] (fun _ h => absurd h List.not_mem_nil) List.nodup_nil none rfl, h2⟩
  | some k =>
    obtain ⟨p0, e0, _⟩ := h1
    obtain ⟨p1, e1, hQ⟩ := h2
    obtain ⟨a, w1, w2⟩ := R.st.ow k false p1 e1
    have w3 := R.st.ro k p1 e1
    rw [w1] at w3
    have w3 : a = Fo.ro k := by injection w3 with w3; injection w3 with w3; injection w3
    have w4 := S.ro k p0 e0
    rw [List.getElem?_map] at w4
    have w5 : vs[k]? = some (.ref a) := by
      cases z : vs[k]? with
      | none => rw [z] at w4; cases w4
      | some u =>
        rw [z] at w4
        have : some u = some (V.ref (Fo.ro k)) := Option.some.inj w4
        rw [this, ← w3]
    exact ⟨some p1, A' k, mk (A' k) (fun x hx => ⟨k, hx⟩) (R.st.nd k) (some p1) ⟨a, w5, w2⟩, hQ⟩
end
theorem fn_go {P : Program} {w : World} {K : PySem.W.Frag} {mg : Str → Option Value} {base : Heap} {G : Gx} {T : Tab} {pr : Nat → CF} {wf n k f : Nat} {d : PDef} (hT : T f = some d) (hown : d.own = true) {x qual : Str} {st : Stmt} {fa : Addr} {fd : FuncData} {N ps : List Str}
    (F : Fun K x qual st fa fd) (S : FnScope N ps (defScope st)) (hp : ps.length = d.np) (hN : N.length = d.ns)
    (body : ∀ (cdv : Value) (A : Around) (outer : List Env) (s : Shared) (H : Hp) (E : XK), Room k (A.deeper (PyProof.Rows.envOfC qual (defScope st) s.heap.objs.size fa cdv)) →
      RSs G T (evF T pr wf n) wf (cxOf CX0 P w K mg base N qual (defScope st) fa cdv A outer s H E).nox (defBody st) d.body) :
    FnOk P w K mg base CX0 (k + 1) fa fd ps (spI G (evF T pr wf (n + 1)) (ioOf T f) f) := by
  have hio : ioOf T f = d.io.findIdx? id := by unfold ioOf; rw [hT]; rfl
  have open' : ∀ as {Q : Rv × Option OP → Prop}, (evF T pr wf (n + 1) f as).sat Q → as.length = d.np ∧ ((endIo (d.io.findIdx? id) as).bind fun _ => (evSs T (evF T pr wf n) wf d.body (as ++ List.replicate (d.ns - d.np) .un)).bind fun q => (endIo (d.io.findIdx? id) q.2).bind fun p => (match q.1 with
          | .nx => .ok (.va .non, p)
          | .ret r => .ok (r, p)
          | _ => .stuck) : Rs (Rv × Option OP)).sat Q := fun as Q h => by
    rw [evF, hT] at h
    obtain ⟨z, h⟩ := if_satR (show (if _ then _ else _ : Rs (Rv × Option OP)).sat Q from h)
    rw [if_pos hown] at h
    exact ⟨z, h⟩
  refine F.ok S (fun vs H Q E h => ?_) (fun cdv A outer s H vs Q E hr h => ?_)
  · obtain ⟨Fo, as, A, S0, h⟩ := h
    have := S0.len
    rw [List.length_map, (open' as h).1] at this
    rw [this, hp]
  · obtain ⟨Fo, as, A0, S0, h⟩ := h
    refine ⟨_, body cdv A outer s H E hr, ?_⟩
    obtain ⟨hl, h⟩ := open' as h
    have hv : vs.length = d.np := by have := S0.len; rw [List.length_map, hl] at this; exact this
    have eS : L2.start N vs = vs.map some ++ List.replicate (d.ns - d.np) none := by unfold L2.start; rw [hN, hv]
    rw [eS]
    have h := Rs.sat_bind.mp h
    have hio0 : (endIo (d.io.findIdx? id) as).sat fun _ => True := Rs.sat_mono h fun _ _ => trivial
    have h : (evSs T (evF T pr wf n) wf d.body (as ++ List.replicate (d.ns - d.np) .un)).sat fun q => ((endIo (d.io.findIdx? id) q.2).bind fun p => (match q.1 with
          | .nx => .ok (.va .non, p)
          | .ret r => .ok (r, p)
          | _ => .stuck) : Rs (Rv × Option OP)).sat fun q => ∀ H' B C v, PostC G Fo H vs A0 (ioOf T f) q H' B C v → Q v H' := by
      cases z : endIo (d.io.findIdx? id) as with
      | stuck => rw [z] at h; exact h.elim
      | ok u => rw [z] at h; exact Rs.sat_bind.mp (show Rs.sat (Rs.bind (evSs T (evF T pr wf n) wf d.body _) _) _ from h)
    refine ⟨Fo, A0, _, S0.ext _, Rs.sat_mono h fun q k => ?_⟩
    obtain ⟨fl, sl'⟩ := q
    have k := Rs.sat_bind.mp k
    rw [hio] at k
    cases fl with
    | nx =>
      intro H' A' σ' f'
      obtain ⟨p, C, P, hQ⟩ := end_go (B := []) (v := .non) (q := .va .non) S0 hio0 ⟨by rw [U_nil]; exact f'.st, List.nodup_nil, (fun _ h => absurd h List.not_mem_nil), by rw [U_nil]; exact f'.ext, f'.fo, rfl, rfl⟩ k
      exact (show ∀ H' B C v, PostC G Fo H vs A0 _ (.va .non, p) H' B C v → Q v H' from hQ) H' [] C .non P
    | brk =>
      cases z : endIo (d.io.findIdx? id) sl' with
      | stuck => rw [z] at k; exact k.elim
      | ok u => rw [z] at k; exact k.elim
    | ct =>
      cases z : endIo (d.io.findIdx? id) sl' with
      | stuck => rw [z] at k; exact k.elim
      | ok u => rw [z] at k; exact k.elim
    | ret r =>
      intro H' A' σ' B v R
      obtain ⟨p, C, P, hQ⟩ := end_go S0 hio0 R k
      exact (show ∀ H' B C v, PostC G Fo H vs A0 _ (r, p) H' B C v → Q v H' from hQ) H' B C v P
theorem fn_zero {P : Program} {w : World} {K : PySem.W.Frag} {mg : Str → Option Value} {base : Heap} {G : Gx} {T : Tab} {pr : Nat → CF} {wf k f : Nat} {x qual : Str} {st : Stmt} {fa : Addr} {fd : FuncData} {N ps : List Str} (F : Fun K x qual st fa fd) (S : FnScope N ps (defScope st)) :
    FnOk P w K mg base CX0 (k + 1) fa fd ps (spI G (evF T pr wf 0) (ioOf T f) f) := by
  refine F.ok S (fun vs H Q E h => ?_) (fun cdv A outer s H vs Q E hr h => ?_)
  · obtain ⟨Fo, as, A, S0, h⟩ := h
    rw [evF] at h
    exact h.elim
  · obtain ⟨Fo, as, A, S0, h⟩ := h
    rw [evF] at h
    exact h.elim
end Pf

/-! Pf13: facts of the built-in names; names of fields -/
namespace Pf
open PySem L2
theorem bt_len : bootBuiltins (Bi.nm .len) = some (.builtin "len") := by decide +kernel
theorem bt_abs : bootBuiltins (Bi.nm .abs) = some (.builtin "abs") := by decide +kernel
theorem bt_int : bootBuiltins (Bi.nm .int) = some (.type "int") := by decide +kernel
theorem bt_list : bootBuiltins (Bi.nm .list) = some (.type "list") := by decide +kernel
theorem bt_tuple : bootBuiltins (Bi.nm .tuple) = some (.type "tuple") := by decide +kernel
theorem bt_sum : bootBuiltins (Bi.nm .sum) = some (.builtin "sum") := by decide +kernel
theorem bt_max1 : bootBuiltins (Bi.nm .max1) = some (.builtin "max") := by decide +kernel
theorem bt_max2 : bootBuiltins (Bi.nm .max2) = some (.builtin "max") := by decide +kernel
theorem bt_min2 : bootBuiltins (Bi.nm .min2) = some (.builtin "min") := by decide +kernel
theorem bt_all : bootBuiltins (Bi.nm .all) = some (.builtin "all") := by decide +kernel
theorem bt_sorted : bootBuiltins (Bi.nm .sorted) = some (.builtin "sorted") := by decide +kernel
theorem bt_isinstance : bootBuiltins "isinstance" = some (.builtin "isinstance") := by decide +kernel
theorem bt_tint : bootBuiltins "int" = some (.type "int") := by decide +kernel
theorem bt_tbool : bootBuiltins "bool" = some (.type "bool") := by decide +kernel
theorem bt_tstr : bootBuiltins "str" = some (.type "str") := by decide +kernel
theorem bt_ttuple : bootBuiltins "tuple" = some (.type "tuple") := by decide +kernel
theorem bt_tlist : bootBuiltins "list" = some (.type "list") := by decide +kernel
theorem nn_of {x : Str} (h : (x == ("__name__" : Str)) = false) : x ≠ "__name__" := fun e => by
  subst e
  have : (("__name__" : Str) == "__name__") = true := by decide +kernel
  rw [this] at h; cases h
/-- names of fields: those of the table, then ever longer ones -/
def padS (n : Nat) : Str := ⟨Array.replicate (n + 100) 120⟩
def nameOf (tab : List Str) (n : Nat) : Str := (tab[n]?).getD (padS n)
theorem nameOf_inj {tab : List Str} (nd : tab.Nodup) (sh : ∀ s ∈ tab, s.cps.size < 100) : ∀ f g, nameOf tab f = nameOf tab g → f = g := fun f g h => by
  unfold nameOf at h
  have short : ∀ (i j : Nat) s, tab[i]? = some s → tab[j]? = none → s = padS j → False := fun i j s e _ q => by
    have h1 := sh s (List.mem_of_getElem? e)
    rw [q] at h1
    unfold padS at h1
    simp at h1
    omega
  cases e1 : tab[f]? with
  | none =>
    cases e2 : tab[g]? with
    | none =>
      rw [e1, e2] at h
      have h : padS f = padS g := h
      have := congrArg (fun s : Str => s.cps.size) h
      unfold padS at this
      simpa using this
    | some t =>
      rw [e1, e2] at h
      exact (short g f t e2 e1 h.symm).elim
  | some s =>
    cases e2 : tab[g]? with
    | none =>
      rw [e1, e2] at h
      exact (short f g s e1 e2 h).elim
    | some t =>
      rw [e1, e2] at h
      have h : s = t := h
      subst h
      obtain ⟨h1, q1⟩ := List.getElem?_eq_some_iff.mp e1
      obtain ⟨h2, q2⟩ := List.getElem?_eq_some_iff.mp e2
      exact (List.getElem_inj nd).mp (q1.trans q2.symm)
/-- the law's promise: a script of at most 63 ints is handed in, True comes out -/
def spLaw (K : PySem.W.Frag) : Sp := fun vs H Q _ => ∃ (a : Addr) (ns : List Int), vs = [.ref a] ∧ SqL K H a (ns.map V.int) ∧ ns.length ≤ 63 ∧ ∀ H', Q (.bl true) H'
theorem law_imp {P : Program} {w : World} {mg : Str → Option Value} {base : Heap} {G : Gx} {cf : CF} {io : Option Nat} {k f : Nat} {fa : Addr} {fd : FuncData} {ps : List Str} (F : FnOk P w G.K mg base CX0 k fa fd ps (spI G cf io f)) (hio : io = none)
    (hl : ∀ ns : List Int, ns.length ≤ 63 → cf f [.va (.scr ns)] = .ok (.va (.bl true), none)) : FnOk P w G.K mg base CX0 k fa fd ps (spLaw G.K) := by
  subst hio
  refine FnOk.imp F fun vs H Q E h => ?_
  obtain ⟨a, ns, e, hS, hlen, k⟩ := h
  subst e
  refine ⟨⟨fun _ => False, fun _ => 0⟩, [.va (.scr ns)], fun _ => [], sr_none (P := ⟨fun _ => False, fun _ => 0⟩) (ds := [.scr ns]) (vs := [.ref a]) (fun x z => False.elim z) rfl fun j d z => ?_, ?_⟩
  · cases j with
    | succ j => simp at z
    | zero =>
      simp at z
      subst z
      refine ⟨.ref a, rfl, a, rfl, ?_⟩
      have e : hide H (fun _ => False) = H := funext fun b => hide_no fun z => z
      show SqL G.K (hide H fun _ => False) a _
      rw [e]; exact hS
  · rw [hl ns hlen]
    intro H' B C v P
    have := P.res.2
    have this : v = .bl true := this
    subst this
    exact k H'
/-- the places of the law's defs and classes -/
structure Ev where
  fa : Nat → Addr
  fd : Nat → FuncData
  ca : Nat → Addr
end Pf

/-! Pm1: the evaluator on known states: loops, comprehensions, items -/
namespace Pf
open PySem L2
abbrev il (ns : List Int) : D := .lst (ns.map .int)
theorem ixN_nat {n i : Nat} (h : i < n) : ixN n (i : Nat) = some i := by
  unfold ixN
  rw [if_pos (by omega), if_pos (by omega)]
  simp
@[simp] theorem atI_nat {α : Type} {l : List α} {i : Nat} : atI l (i : Nat) = l[i]? := by
  unfold atI
  by_cases h : i < l.length
  · rw [ixN_nat h]; rfl
  · unfold ixN
    rw [if_pos (by omega), if_neg (by omega), List.getElem?_eq_none (by omega)]
    rfl
@[simp] theorem atI_0 {α : Type} (a : α) (l : List α) : atI (a :: l) 0 = some a := atI_nat (i := 0)
@[simp] theorem atI_1 {α : Type} (a b : α) (l : List α) : atI (a :: b :: l) 1 = some b := atI_nat (i := 1)
@[simp] theorem ixN_0 {n : Nat} : ixN (n + 1) 0 = some 0 := ixN_nat (i := 0) (by omega)
@[simp] theorem ixN_1 {n : Nat} : ixN (n + 2) 1 = some 1 := ixN_nat (i := 1) (by omega)
@[simp] theorem atI_2 {α : Type} (a b c : α) (l : List α) : atI (a :: b :: c :: l) 2 = some c := atI_nat (i := 2)
@[simp] theorem atI_3 {α : Type} (a b c d : α) (l : List α) : atI (a :: b :: c :: d :: l) 3 = some d := atI_nat (i := 3)
@[simp] theorem Rs.of_none {α : Type} : Rs.of (none : Option α) = .stuck := rfl
@[simp] theorem ix_lst (xs : List D) (i : Int) : ixD (.lst xs) (.int i) = Rs.of (atI xs i) := rfl
@[simp] theorem ix_tup (xs : List D) (i : Int) : ixD (.tup xs) (.int i) = Rs.of (atI xs i) := rfl
@[simp] theorem dI (i : Int) : (D.int i).py = .int i := by simp only [D.py]
@[simp] theorem dB (i : Bool) : (D.bl i).py = .bool i := by simp only [D.py]
@[simp] theorem dS (i : Str) : (D.str i).py = .str i := by simp only [D.py]
@[simp] theorem dN : (D.non).py = .none := by simp only [D.py]
@[simp] theorem dL (xs : List D) : (D.lst xs).py = .list (D.pys xs) := by simp only [D.py]
@[simp] theorem dT (xs : List D) : (D.tup xs).py = .tuple (D.pys xs) := by simp only [D.py]
@[simp] theorem pys_int : ∀ ns : List Int, D.pys (ns.map .int) = ns.map .int
  | [] => by simp [D.pys]
  | n :: ns => by simp [D.pys, pys_int ns]
@[simp] theorem pls_int : ∀ ns : List Int, D.pls (ns.map .int) = true
  | [] => by simp [D.pls]
  | n :: ns => by simp [D.pls, D.pl, pls_int ns]
@[simp] theorem dep_int : ∀ ns : List Int, PyData.depthAll (ns.map .int) = 0
  | [] => by simp [PyData.depthAll]
  | n :: ns => by simp [PyData.depthAll, PyData.depth, dep_int ns]
@[simp] theorem eqv_ints : ∀ ns ms : List Int, PyData.eqvAll (ns.map .int) (ms.map .int) = decide (ns = ms)
  | [], [] => by simp [PyData.eqvAll]
  | [], _ :: _ => by simp [PyData.eqvAll]
  | _ :: _, [] => by simp [PyData.eqvAll]
  | n :: ns, m :: ms => by
    simp only [List.map_cons, PyData.eqvAll, PyData.eqv, eqv_ints ns ms, List.cons.injEq]
    by_cases h : n = m <;> by_cases k : ns = ms <;> simp [h, k]
@[simp] theorem eqD_int (a b : Int) : eqD (.int a) (.int b) = .ok (decide (a = b)) := by
  simp [eqD, D.pl, PyData.depth, PyData.eqv]
  by_cases h : a = b <;> simp [h]
@[simp] theorem eqD_str (a b : Str) : eqD (.str a) (.str b) = .ok (decide (a = b)) := by
  simp [eqD, D.pl, PyData.depth, PyData.eqv]
  by_cases h : a = b <;> simp [h]
@[simp] theorem eqD_bl (a b : Bool) : eqD (.bl a) (.bl b) = .ok (a == b) := by
  simp only [eqD, D.pl, dB, PyData.depth, PyData.eqv]
  rfl
@[simp] theorem eqD_il (a b : List Int) : eqD (.lst (a.map .int)) (.lst (b.map .int)) = .ok (decide (a = b)) := by
  simp [eqD, D.pl, PyData.depth, PyData.eqv]
@[simp] theorem eqD_il0 (a : List Int) : eqD (.lst (a.map .int)) (.lst []) = .ok (decide (a = [])) := eqD_il a []
@[simp] theorem cmp_eq (a b : D) : cmpD .eq a b = eqD a b := by cases a <;> cases b <;> rfl
@[simp] theorem cmp_ne (a b : D) : cmpD .ne a b = (eqD a b).bind fun k => .ok (!k) := by cases a <;> cases b <;> rfl
@[simp] theorem cmp_in (a b : D) : cmpD .isin a b = inD false a b := by cases a <;> cases b <;> rfl
@[simp] theorem cmp_notin (a b : D) : cmpD .notin a b = inD true a b := by cases a <;> cases b <;> rfl
@[simp] theorem cmp_lt (a b : D) : cmpD .lt a b = ltD a b := by cases a <;> cases b <;> rfl
@[simp] theorem lt_int (a b : Int) : ltD (.int a) (.int b) = .ok (decide (a < b)) := rfl
@[simp] theorem cmp_le (a b : Int) : cmpD .le (.int a) (.int b) = .ok (decide (a ≤ b)) := rfl
@[simp] theorem cmp_gt (a b : Int) : cmpD .gt (.int a) (.int b) = .ok (decide (b < a)) := rfl
@[simp] theorem cmp_ge (a b : Int) : cmpD .ge (.int a) (.int b) = .ok (decide (b ≤ a)) := rfl
@[simp] theorem in_il (neg : Bool) (x : Int) (ns : List Int) : inD neg (.int x) (.lst (ns.map .int)) = .ok (neg ^^ decide (x ∈ ns)) := by
  simp only [inD, D.pl, pls_int, dI, pys_int, PyData.depth]
  rw [if_pos ⟨trivial, trivial, by decide⟩]
  congr 2
  induction ns with
  | nil => rfl
  | cons n ns ih =>
    rw [List.map_cons, List.any_cons, ih]
    simp only [PyData.eqv]
    by_cases h : x = n
    · subst h; simp
    · have : ¬ n = x := fun e => h e.symm
      simp [h, this]
@[simp] theorem bin_addI (i j : Int) : binD .add (.int i) (.int j) = .ok (.va (.int (i + j))) := rfl
@[simp] theorem bin_subI (i j : Int) : binD .sub (.int i) (.int j) = .ok (.va (.int (i - j))) := rfl
@[simp] theorem bin_addL (xs ys : List D) (h : xs.length + ys.length ≤ sizeLine) : binD .add (.lst xs) (.lst ys) = .ok (.fr (.lst (xs ++ ys))) := if_pos h
@[simp] theorem bin_addT (xs ys : List D) (h : xs.length + ys.length ≤ sizeLine) : binD .add (.tup xs) (.tup ys) = .ok (.va (.tup (xs ++ ys))) := if_pos h
theorem bin_mulR (i j : Int) (h : -(2 ^ 64) < j ∧ j < 2 ^ 64) : binD .mul (.int i) (.int j) = .ok (.va (.int (i * j))) := if_pos (.inr h)
theorem bin_mulL (i j : Int) (h : -(2 ^ 64) < i ∧ i < 2 ^ 64) : binD .mul (.int i) (.int j) = .ok (.va (.int (i * j))) := if_pos (.inl h)
@[simp] theorem bin_fdiv (i j : Int) (h0 : 0 < j) (h1 : j < 1073741824) : binD .fdiv (.int i) (.int j) = .ok (.va (.int (i / j))) := if_pos ⟨h0, h1⟩
@[simp] theorem bin_mod (i j : Int) (h0 : 0 < j) : binD .mod (.int i) (.int j) = .ok (.va (.int (i % j))) := if_pos h0
@[simp] theorem bi_lenL (xs : List D) : biD .len [.lst xs] = .ok (.va (.int xs.length)) := rfl
@[simp] theorem bi_lenT (xs : List D) : biD .len [.tup xs] = .ok (.va (.int xs.length)) := rfl
@[simp] theorem bi_abs (i : Int) : biD .abs [.int i] = .ok (.va (.int (if i < 0 then -i else i))) := rfl
@[simp] theorem bi_listL (xs : List D) : biD .list [.lst xs] = .ok (.fr (.lst xs)) := rfl
@[simp] theorem bi_listT (xs : List D) : biD .list [.tup xs] = .ok (.fr (.lst xs)) := rfl
@[simp] theorem bi_tupleL (xs : List D) : biD .tuple [.lst xs] = .ok (.va (.tup xs)) := rfl
@[simp] theorem bi_tupleT (xs : List D) : biD .tuple [.tup xs] = .ok (.va (.tup xs)) := rfl
@[simp] theorem bi_rev (xs : List D) : biD .listRev [.lst xs] = .ok (.fr (.lst xs.reverse)) := rfl
@[simp] theorem bi_rng (n : Int) (h0 : -(2 ^ 62) ≤ n) (h1 : n ≤ 16777216) : biD .listRange [.int n] = .ok (.fr (.lst (rangeD 0 n))) := if_pos ⟨h0, h1⟩
@[simp] theorem bm_append (xs : List D) (d : D) (h : xs.length < sizeLine) : bmD .append xs [d] = .ok (.non, xs ++ [d]) := if_pos h
@[simp] theorem bm_extendL (xs ys : List D) (h : xs.length + ys.length ≤ sizeLine) : bmD .extend xs [.lst ys] = .ok (.non, xs ++ ys) := if_pos h
@[simp] theorem bm_extendT (xs ys : List D) (h : xs.length + ys.length ≤ sizeLine) : bmD .extend xs [.tup ys] = .ok (.non, xs ++ ys) := if_pos h
@[simp] theorem bm_insert (xs : List D) (d : D) (h : xs.length < sizeLine) : bmD .insert xs [.int 0, d] = .ok (.non, d :: xs) := if_pos ⟨rfl, h⟩
@[simp] theorem bm_pop2 (a b c : D) (l : List D) : bmD .pop1 (a :: b :: c :: l) [.int 2] = .ok (c, a :: b :: l) := by
  show (if (0 : Int) ≤ 2 ∧ (2 : Int) < ((a :: b :: c :: l).length : Int) ∧ (2 : Int) < 2 ^ 63 then _ else _) = _
  rw [if_pos ⟨by decide, by simp only [List.length_cons]; omega, by decide⟩]
  rfl
@[simp] theorem scs_int : ∀ ns : List Int, scs (ns.map .int) = some (ns.map .int)
  | [] => rfl
  | n :: ns => by simp [scs_int ns]
/-- a loop by an invariant -/
theorem forLoop_inv {body : D → Sls → Rs (Fl × Sls)} : ∀ (ds : List D) {I : Nat → Sls → Prop} {sl : Sls}, I 0 sl → (∀ i d sl, ds[i]? = some d → I i sl → ∃ sl', body d sl = .ok (.nx, sl') ∧ I (i + 1) sl') → ∃ sl', forLoop body ds sl = .ok (.nx, sl') ∧ I ds.length sl'
  | [], I, sl, h0, _ => ⟨sl, rfl, h0⟩
  | d :: ds, I, sl, h0, hs => by
    obtain ⟨sl1, e1, h1⟩ := hs 0 d sl rfl h0
    obtain ⟨sl2, e2, h2⟩ := forLoop_inv ds (I := fun i => I (i + 1)) h1 fun i d' sl e h => hs (i + 1) d' sl (by simpa using e) h
    refine ⟨sl2, ?_, h2⟩
    unfold forLoop
    rw [e1]
    exact e2
theorem whlLoop_inv {test : Sls → Rs (Bool × Sls)} {body : Sls → Rs (Fl × Sls)} {I : Sls → Prop} {μ : Sls → Nat} {Q : Sls → Prop}
    (hs : ∀ sl, I sl → (∃ sl', test sl = .ok (false, sl') ∧ Q sl') ∨ ∃ sl' sl'', test sl = .ok (true, sl') ∧ body sl' = .ok (.nx, sl'') ∧ I sl'' ∧ μ sl'' < μ sl) :
    ∀ (n : Nat) (sl : Sls), I sl → μ sl < n → ∃ sl', whlLoop test body n sl = .ok (.nx, sl') ∧ Q sl'
  | 0, _, _, h => absurd h (Nat.not_lt_zero _)
  | n + 1, sl, hi, h => by
    unfold whlLoop
    rcases hs sl hi with ⟨sl', e, q⟩ | ⟨sl', sl'', e1, e2, i', l⟩
    · rw [e]
      exact ⟨sl', rfl, q⟩
    · obtain ⟨sl3, e3, q3⟩ := whlLoop_inv hs n sl'' i' (by omega)
      rw [e1]
      refine ⟨sl3, ?_, q3⟩
      rw [Rs.bind_ok, if_pos rfl, e2]
      exact e3
/-- one turn of a comprehension, from the wiped state -/
def lcW (T : Tab) (cf : CF) (own : List Nat) (tg : Tgt) (cond : POpt) (elt : PE) : D → Sls → Rs (Option D × Sls) := fun d sl => (giveT tg d sl).bind fun sl => (evC T cf cond sl).bind fun c => if c.1 = true then (evE T cf elt c.2).bind fun r => (Rs.of (settle r.2 r.1)).bind fun y => if calmS y.2 own = true then .ok (some y.1, y.2) else .stuck
        else if calmS c.2 own = true then .ok (none, c.2) else .stuck
def optL {α : Type} : Option α → List α
  | none => []
  | some a => [a]
def lcFold {α β : Type} (step : α → β → Option D × α) : List β → α → List D × α
  | [], s => ([], s)
  | x :: xs, s => (optL (step s x).1 ++ (lcFold step xs (step s x).2).1, (lcFold step xs (step s x).2).2)
theorem lcLoop_st {T : Tab} {cf : CF} {own : List Nat} {tg : Tgt} {cond : POpt} {elt : PE} {α β : Type} (f : α → Sls) (g : β → D) (step : α → β → Option D × α) :
    ∀ (xs : List β) (s : α) (sl : Sls), wipeS sl own = wipeS (f s) own → calmS sl own = true → (∀ s x, x ∈ xs → ∃ sl'', lcW T cf own tg cond elt (g x) (wipeS (f s) own) = .ok ((step s x).1, sl'') ∧ wipeS sl'' own = wipeS (f (step s x).2) own ∧ calmS sl'' own = true) →
    ∃ sl', lcLoop (lcBody T cf own tg cond elt) (xs.map g) sl = .ok ((lcFold step xs s).1, sl') ∧ wipeS sl' own = wipeS (f (lcFold step xs s).2) own ∧ calmS sl' own = true := by
  intro xs
  induction xs with
  | nil => intro s sl h hc _; exact ⟨sl, rfl, h, hc⟩
  | cons x xs ih =>
    intro s sl h hc hs
    obtain ⟨sl2, e2, w2, c2⟩ := hs s x List.mem_cons_self
    obtain ⟨sl3, e3, w3, c3⟩ := ih (step s x).2 sl2 w2 c2 fun s x hx => hs s x (List.mem_cons_of_mem _ hx)
    refine ⟨sl3, ?_, w3, c3⟩
    rw [List.map_cons]
    unfold lcLoop
    have eb : lcBody T cf own tg cond elt (g x) sl = .ok ((step s x).1, sl2) := by
      have : lcBody T cf own tg cond elt (g x) sl = lcW T cf own tg cond elt (g x) (wipeS sl own) := rfl
      rw [this, h, e2]
    rw [eb, Rs.bind_ok, e3, Rs.bind_ok]
    show _ = Rs.ok (optL (step s x).1 ++ (lcFold step xs (step s x).2).1, sl3)
    cases (step s x).1 <;> rfl
/-- a comprehension that changes nothing: the values kept, from the left -/
theorem evE_lc_pure {T : Tab} {cf : CF} {own : List Nat} {tg : Tgt} {it : PI} {cond : POpt} {elt : PE} {β : Type} (g : β → D) (k : β → Option D) (xs : List β) {sl sl1 : Sls} (hi : evI T cf it sl = .ok (xs.map g, sl1)) (hc : calmS sl1 own = true) (hl : xs.length < sizeLine)
    (hs : ∀ x, x ∈ xs → ∃ sl'', lcW T cf own tg cond elt (g x) (wipeS sl1 own) = .ok (k x, sl'') ∧ wipeS sl'' own = wipeS sl1 own ∧ calmS sl'' own = true) :
    evE T cf (.lc own tg it cond elt) sl = .ok (.fr (.lst (xs.filterMap k)), sl1) := by
  rw [evE_lc, hi, Rs.bind_ok]
  obtain ⟨sl', e, w, c⟩ := lcLoop_st (T := T) (cf := cf) (own := own) (tg := tg) (cond := cond) (elt := elt) (fun _ : Unit => sl1) g (fun _ x => (k x, ())) xs () sl1 rfl hc fun _ x hx => hs x hx
  rw [if_pos ⟨hc, by simpa using hl⟩, e, Rs.bind_ok, if_pos c]
  have e1 : ∀ (xs : List β), (lcFold (fun (_ : Unit) x => (k x, ())) xs ()).1 = xs.filterMap k := by
    intro xs
    induction xs with
    | nil => rfl
    | cons x xs ih =>
      rw [List.filterMap_cons]
      show optL (k x) ++ (lcFold (fun (_ : Unit) x => (k x, ())) xs ()).1 = _
      rw [ih]
      cases k x <;> simp [optL]
  have e2 : backS sl1 sl' own = sl1 := by
    have hl : sl1.length = sl'.length := by
      have := congrArg List.length w
      rw [wipeS_len, wipeS_len] at this
      exact this.symm
    apply List.ext_getElem?
    intro j
    rw [backS_get sl1 sl' hl]
    by_cases m : j ∈ own
    · rw [if_pos m]
    · rw [if_neg m]
      have := congrArg (fun l : Sls => l[j]?) w
      simp only [wipeS_get, if_neg m] at this
      exact this
  rw [e1, e2]
/-- a comprehension over a state -/
theorem evE_lc_st {T : Tab} {cf : CF} {own : List Nat} {tg : Tgt} {it : PI} {cond : POpt} {elt : PE} {α β : Type} (f : α → Sls) (g : β → D) (step : α → β → Option D × α) (s0 : α) (xs : List β) {sl : Sls} (hi : evI T cf it sl = .ok (xs.map g, f s0)) (hc : calmS (f s0) own = true) (hl : xs.length < sizeLine)
    (hs : ∀ s x, x ∈ xs → ∃ sl'', lcW T cf own tg cond elt (g x) (wipeS (f s) own) = .ok ((step s x).1, sl'') ∧ wipeS sl'' own = wipeS (f (step s x).2) own ∧ calmS sl'' own = true)
    (hf : ∀ s j, j ∈ own → (f s)[j]? = (f s0)[j]?) (hln : ∀ s, (f s).length = (f s0).length) :
    evE T cf (.lc own tg it cond elt) sl = .ok (.fr (.lst (lcFold step xs s0).1), f (lcFold step xs s0).2) := by
  rw [evE_lc, hi, Rs.bind_ok]
  obtain ⟨sl', e, w, c⟩ := lcLoop_st (T := T) (cf := cf) (own := own) (tg := tg) (cond := cond) (elt := elt) f g step xs s0 (f s0) rfl hc hs
  rw [if_pos ⟨hc, by simpa using hl⟩, e, Rs.bind_ok, if_pos c]
  have e2 : backS (f s0) sl' own = f (lcFold step xs s0).2 := by
    have hl : (f s0).length = sl'.length := by
      have := congrArg List.length w
      rw [wipeS_len, wipeS_len, hln] at this
      exact this.symm
    apply List.ext_getElem?
    intro j
    rw [backS_get _ sl' hl]
    by_cases m : j ∈ own
    · rw [if_pos m]; exact (hf _ j m).symm
    · rw [if_neg m]
      have := congrArg (fun l : Sls => l[j]?) w
      simp only [wipeS_get, if_neg m] at this
      exact this
  rw [e2]
end Pf

/-! Pm2: rows and numbers (digits from 0, the rows of each length ahead counted); order -/
namespace Pf
open PySem L2
/-- a row's number, from a number ahead of it -/
def numF (m : Int) : Int → List Int → Int
  | a, [] => a
  | a, d :: ds => numF m (a * m + d + 1) ds
abbrev num (m : Int) (r : List Int) : Int := numF m 0 r
/-- digits below m -/
def Vd (m : Int) (r : List Int) : Prop := ∀ d ∈ r, 0 ≤ d ∧ d < m
theorem Vd.nil {m : Int} : Vd m [] := fun _ h => absurd h List.not_mem_nil
theorem Vd.cons {m d : Int} {r : List Int} (h : 0 ≤ d ∧ d < m) (k : Vd m r) : Vd m (d :: r) := fun x hx => by
  rcases List.mem_cons.mp hx with e | e
  · subst e; exact h
  · exact k x e
theorem Vd.app {m : Int} {r s : List Int} (h : Vd m r) (k : Vd m s) : Vd m (r ++ s) := fun x hx => (List.mem_append.mp hx).elim (h x) (k x)
theorem Vd.one {m d : Int} (h : 0 ≤ d ∧ d < m) : Vd m [d] := Vd.cons h Vd.nil
theorem numF_app (m : Int) : ∀ (r s : List Int) (a : Int), numF m a (r ++ s) = numF m (numF m a r) s
  | [], _, _ => rfl
  | d :: r, s, a => numF_app m r s _
theorem num_snoc (m : Int) (r : List Int) (d : Int) : num m (r ++ [d]) = num m r * m + d + 1 := numF_app m r [d] 0
/-- how many rows are shorter than L -/
def ahead (m : Int) : Nat → Int
  | 0 => 0
  | n + 1 => ahead m n * m + 1
theorem ahead_nonneg {m : Int} (h : 1 ≤ m) : ∀ n, 0 ≤ ahead m n
  | 0 => Int.le_refl 0
  | n + 1 => by
    have := Int.mul_nonneg (ahead_nonneg h n) (show 0 ≤ m by omega)
    show 0 ≤ ahead m n * m + 1
    omega
theorem ahead_step {m : Int} (h : 1 ≤ m) (n : Nat) : ahead m n < ahead m (n + 1) := by
  have h0 := ahead_nonneg h n
  have : ahead m n * 1 ≤ ahead m n * m := Int.mul_le_mul_of_nonneg_left h h0
  show ahead m n < ahead m n * m + 1
  omega
theorem ahead_mono {m : Int} (h : 1 ≤ m) {a b : Nat} (k : a ≤ b) : ahead m a ≤ ahead m b := by
  induction k with
  | refl => exact Int.le_refl _
  | step _ ih => exact Int.le_trans ih (Int.le_of_lt (ahead_step h _))
theorem rev_ind {α : Type} {P : List α → Prop} (h0 : P []) (hs : ∀ r d, P r → P (r ++ [d])) (r : List α) : P r := by
  have : ∀ s : List α, P s.reverse := fun s => by
    induction s with
    | nil => exact h0
    | cons x s ih => rw [List.reverse_cons]; exact hs _ _ ih
  have := this r.reverse
  rwa [List.reverse_reverse] at this
theorem num_between {m : Int} (h : 1 ≤ m) (r : List Int) : Vd m r → ahead m r.length ≤ num m r ∧ num m r < ahead m (r.length + 1) := by
  induction r using rev_ind with
  | h0 => intro _; exact ⟨Int.le_refl 0, by show (0 : Int) < 0 * m + 1; omega⟩
  | hs r d ih =>
    intro v
    obtain ⟨i1, i2⟩ := ih fun x hx => v x (List.mem_append_left _ hx)
    obtain ⟨d1, d2⟩ := v d (List.mem_append_right _ List.mem_cons_self)
    have e : num m (r ++ [d]) = num m r * m + d + 1 := num_snoc m r d
    have i2 : num m r ≤ ahead m r.length * m := by
      have : num m r < ahead m r.length * m + 1 := i2
      omega
    have m1 := Int.mul_le_mul_of_nonneg_right i1 (show 0 ≤ m by omega)
    have m2 := Int.mul_le_mul_of_nonneg_right i2 (show 0 ≤ m by omega)
    rw [e, List.length_append]
    show ahead m r.length * m + 1 ≤ _ ∧ _ < (ahead m r.length * m + 1) * m + 1
    have e3 : (ahead m r.length * m + 1) * m = ahead m r.length * m * m + m := by rw [Int.add_mul, Int.one_mul]
    omega
theorem num_nonneg {m : Int} (h : 1 ≤ m) {r : List Int} (v : Vd m r) : 0 ≤ num m r := Int.le_trans (ahead_nonneg h _) (num_between h r v).1
/-- a longer row has a greater number -/
theorem num_len {m : Int} (h : 1 ≤ m) {r s : List Int} (v : Vd m r) (w : Vd m s) (l : r.length < s.length) : num m r < num m s :=
  Int.lt_of_lt_of_le (num_between h r v).2 (Int.le_trans (ahead_mono h l) (num_between h s w).1)
theorem numF_lt {m : Int} : ∀ (r s : List Int) (a b : Int), r.length = s.length → Vd m r → Vd m s → a < b → numF m a r < numF m b s
  | [], [], a, b, _, _, _, h => h
  | [], _ :: _, _, _, l, _, _, _ => by simp at l
  | _ :: _, [], _, _, l, _, _, _ => by simp at l
  | d :: r, e :: s, a, b, l, v, w, h => by
    refine numF_lt r s _ _ (by simpa using l) (fun x hx => v x (List.mem_cons_of_mem _ hx)) (fun x hx => w x (List.mem_cons_of_mem _ hx)) ?_
    obtain ⟨d1, d2⟩ := v d List.mem_cons_self
    obtain ⟨e1, e2⟩ := w e List.mem_cons_self
    have : (a + 1) * m ≤ b * m := Int.mul_le_mul_of_nonneg_right h (by omega)
    rw [Int.add_mul, Int.one_mul] at this
    omega
theorem lex_numF {m : Int} : ∀ (r s : List Int) (a : Int), r.length = s.length → Vd m r → Vd m s → HT.lexLt r s = decide (numF m a r < numF m a s)
  | [], [], a, _, _, _ => by simp [HT.lexLt, numF]
  | [], _ :: _, _, l, _, _ => by simp at l
  | _ :: _, [], _, l, _, _ => by simp at l
  | d :: r, e :: s, a, l, v, w => by
    have l' : r.length = s.length := by simpa using l
    have v' : Vd m r := fun x hx => v x (List.mem_cons_of_mem _ hx)
    have w' : Vd m s := fun x hx => w x (List.mem_cons_of_mem _ hx)
    rw [HT.lexLt_cons]
    by_cases q : d = e
    · subst q
      rw [if_pos rfl]
      exact lex_numF r s _ l' v' w'
    · rw [if_neg q]
      show decide (d < e) = decide (numF m (a * m + d + 1) r < numF m (a * m + e + 1) s)
      by_cases k : d < e
      · have := numF_lt r s (a * m + d + 1) (a * m + e + 1) l' v' w' (by omega)
        rw [decide_eq_true k, decide_eq_true this]
      · have := numF_lt s r (a * m + e + 1) (a * m + d + 1) l'.symm w' v' (by omega)
        rw [decide_eq_false k, decide_eq_false (by omega)]
/-- shorter ones first, those of one length as a dictionary has them -/
def shortLt (r s : List Int) : Bool := decide (r.length < s.length) || (decide (r.length = s.length) && HT.lexLt r s)
theorem short_num {m : Int} (h : 1 ≤ m) {r s : List Int} (v : Vd m r) (w : Vd m s) : shortLt r s = decide (num m r < num m s) := by
  unfold shortLt
  rcases Nat.lt_trichotomy r.length s.length with l | l | l
  · rw [decide_eq_true l, decide_eq_true (num_len h v w l)]; rfl
  · rw [decide_eq_false (by omega), decide_eq_true l, lex_numF r s 0 l v w]; rfl
  · have := num_len h w v l
    rw [decide_eq_false (by omega), decide_eq_false (by omega : ¬ r.length = s.length), decide_eq_false (by omega)]; rfl
/-- every number has its row -/
theorem row_of {m : Int} (h : 1 ≤ m) : ∀ (k : Nat) (n : Int), 0 ≤ n → n.toNat ≤ k → ∃ r, Vd m r ∧ num m r = n
  | 0, n, h0, hk => ⟨[], Vd.nil, by show (0 : Int) = n; omega⟩
  | k + 1, n, h0, hk => by
    by_cases z : n = 0
    · exact ⟨[], Vd.nil, z.symm⟩
    · have d0 : 0 ≤ (n - 1) / m := Int.ediv_nonneg (by omega) (by omega)
      have d1 : (n - 1) / m ≤ n - 1 := Int.ediv_le_self _ (by omega)
      obtain ⟨r, v, e⟩ := row_of h k ((n - 1) / m) d0 (by omega)
      have m0 : 0 ≤ (n - 1) % m := Int.emod_nonneg _ (by omega)
      have m1 : (n - 1) % m < m := Int.emod_lt_of_pos _ (by omega)
      refine ⟨r ++ [(n - 1) % m], v.app (Vd.one ⟨m0, m1⟩), ?_⟩
      rw [num_snoc, e]
      have := Int.mul_ediv_add_emod (n - 1) m
      have c : (n - 1) / m * m = m * ((n - 1) / m) := Int.mul_comm _ _
      omega
theorem row_ex {m : Int} (h : 1 ≤ m) {n : Int} (h0 : 0 ≤ n) : ∃ r, Vd m r ∧ num m r = n := row_of h _ n h0 (Nat.le_refl _)
/-- the last digit, and what is ahead of it -/
theorem num_last {m : Int} (h : 1 ≤ m) {r : List Int} {d : Int} (hd : 0 ≤ d ∧ d < m) : (num m (r ++ [d]) - 1) % m = d ∧ (num m (r ++ [d]) - 1) / m = num m r := by
  have e : num m (r ++ [d]) - 1 = d + num m r * m := by rw [num_snoc]; omega
  rw [e, Int.add_mul_emod_self_right, Int.add_mul_ediv_right _ _ (by omega), Int.emod_eq_of_lt hd.1 hd.2, Int.ediv_eq_zero_of_lt hd.1 hd.2]
  exact ⟨rfl, Int.zero_add _⟩
theorem ahead_base {m k : Int} (h : 1 ≤ m) (l : m ≤ k) : ∀ n, ahead m n ≤ ahead k n
  | 0 => Int.le_refl _
  | n + 1 => by
    have i := ahead_base h l n
    have h0 := ahead_nonneg h n
    have a1 : ahead m n * m ≤ ahead m n * k := Int.mul_le_mul_of_nonneg_left l h0
    have a2 : ahead m n * k ≤ ahead k n * k := Int.mul_le_mul_of_nonneg_right i (by omega)
    show ahead m n * m + 1 ≤ ahead k n * k + 1
    omega
/-- with more digits rows are no longer -/
theorem len_base {m k : Int} (h : 1 ≤ m) (l : m ≤ k) {r s : List Int} (v : Vd m r) (w : Vd k s) (e : num m r = num k s) : s.length ≤ r.length := by
  by_cases q : s.length ≤ r.length
  · exact q
  · have a := (num_between h r v).2
    have b := (num_between (by omega) s w).1
    have c := ahead_base h l (r.length + 1)
    have d := ahead_mono (m := k) (by omega) (show r.length + 1 ≤ s.length by omega)
    omega
theorem num_inj {m : Int} (h : 1 ≤ m) {r s : List Int} (v : Vd m r) (w : Vd m s) (e : num m r = num m s) : r = s := by
  have l : r.length = s.length := by
    rcases Nat.lt_trichotomy r.length s.length with l | l | l
    · have := num_len h v w l; omega
    · exact l
    · have := num_len h w v l; omega
  have key : ∀ (r s : List Int) (a : Int), r.length = s.length → Vd m r → Vd m s → numF m a r = numF m a s → r = s := by
    intro r
    induction r with
    | nil => intro s a l _ _ _; exact (List.eq_nil_of_length_eq_zero l.symm).symm
    | cons d r ih =>
      intro s a l v w e
      cases s with
      | nil => simp at l
      | cons d' s =>
        have l' : r.length = s.length := by simpa using l
        have v' : Vd m r := fun x hx => v x (List.mem_cons_of_mem _ hx)
        have w' : Vd m s := fun x hx => w x (List.mem_cons_of_mem _ hx)
        rcases Int.lt_trichotomy d d' with q | q | q
        · have := numF_lt r s (a * m + d + 1) (a * m + d' + 1) l' v' w' (by omega)
          have e : numF m (a * m + d + 1) r = numF m (a * m + d' + 1) s := e
          omega
        · subst q
          rw [ih s _ l' v' w' e]
        · have := numF_lt s r (a * m + d' + 1) (a * m + d + 1) l'.symm w' v' (by omega)
          have e : numF m (a * m + d + 1) r = numF m (a * m + d' + 1) s := e
          omega
  exact key r s 0 l v w e
/-! ### the order of tuples (a length, a list of ints) -/
theorem alike_ints : ∀ a b : List Int, PySem.W.alikeAll (a.map PyData.int) (b.map PyData.int) = true
  | [], _ => by simp [PySem.W.alikeAll]
  | _ :: _, [] => by simp [PySem.W.alikeAll]
  | x :: a, y :: b => by simp [PySem.W.alikeAll, PySem.W.alike, alike_ints a b]
theorem lt_list : ∀ a b : List Int, PyProof.Rows.lexLt PyProof.Rows.itemOrd (PySem.W.keyToksAll (a.map PyData.int)) (PySem.W.keyToksAll (b.map PyData.int)) = HT.lexLt a b
  | [], [] => by simp only [List.map_nil, PySem.W.keyToksAll]; rfl
  | [], y :: b => by
    rw [List.map_nil, List.map_cons, PySem.W.keyToksAll, PySem.W.toks_all_cons, PySem.W.lex_atom (by simp), PySem.W.lex_one]; rfl
  | x :: a, [] => by
    rw [List.map_nil, List.map_cons, PySem.W.keyToksAll, PySem.W.toks_all_cons, PySem.W.lex_atom (by simp), PySem.W.lex_one]; rfl
  | x :: a, y :: b => by
    rw [List.map_cons, List.map_cons, HT.lexLt_cons]
    have al : PySem.W.alike (.int x) (.int y) = true := by simp [PySem.W.alike]
    by_cases q : x = y
    · subst q
      rw [if_pos rfl, PySem.W.dataLt_all_yes al (by simp [PyData.eqv]), lt_list a b]
    · rw [if_neg q, PySem.W.dataLt_all_no al (by simp [PyData.eqv, q]), PySem.W.dataLt_int]
theorem ltD_len (i j : Int) (a b : List Int) : ltD (.tup [.int i, .lst (a.map .int)]) (.tup [.int j, .lst (b.map .int)]) = .ok (decide (i < j) || (decide (i = j) && HT.lexLt a b)) := by
  have e : ∀ (k : Int) (c : List Int), D.pys [.int k, .lst (c.map .int)] = [.int k, .list (c.map .int)] := fun k c => by simp [D.pys]
  have p : ∀ (k : Int) (c : List Int), D.pls [.int k, .lst (c.map .int)] = true := fun k c => by simp [D.pls, D.pl]
  have al : PySem.W.alike (.int i) (.int j) = true := by simp [PySem.W.alike]
  have al2 : PySem.W.alike (.list (a.map PyData.int)) (.list (b.map PyData.int)) = true := by simp [PySem.W.alike, alike_ints]
  simp only [ltD, e, p]
  rw [if_pos ⟨trivial, trivial, by simp [PySem.W.alike, PySem.W.alikeAll, alike_ints], by simp [PyData.depth, PyData.depthAll]⟩, PySem.W.dataLt_tuple]
  congr 1
  by_cases q : i = j
  · subst q
    rw [PySem.W.dataLt_all_yes al (by simp [PyData.eqv])]
    by_cases k : a = b
    · subst k
      rw [PySem.W.dataLt_all_yes al2 (by simp [PyData.eqv])]
      have : HT.lexLt a a = false := by
        induction a with
        | nil => rfl
        | cons x a ih => rw [HT.lexLt_cons, if_pos rfl]; exact ih (by simp [PySem.W.alike, alike_ints])
      rw [this]
      simp [PySem.W.keyToksAll]
      rfl
    · rw [PySem.W.dataLt_all_no al2 (by simp [PyData.eqv, k]), PySem.W.dataLt_list, lt_list]
      simp
  · rw [PySem.W.dataLt_all_no al (by simp [PyData.eqv, q]), PySem.W.dataLt_int]
    simp [q]
end Pf

namespace K15
open PySem L2 Pf
def top (i : Nat) : Stmt := PySem.Challenge.pw_escaperow_k15_whole_ranks_keep_order.main.body.getD i (.Pass ⟨0, 0, 0, 0⟩)
abbrev s_0 : Stmt := top 41
abbrev s_1 : Stmt := top 42
abbrev s_2 : Stmt := top 43
abbrev s_3 : Stmt := top 44
abbrev s_4 : Stmt := top 45
abbrev s_5 : Stmt := top 46
abbrev s_6 : Stmt := top 47
abbrev s_7 : Stmt := top 1
abbrev s_8 : Stmt := top 2
abbrev s_9 : Stmt := top 22
abbrev s_10 : Stmt := top 23
abbrev s_11 : Stmt := top 29
abbrev s_12 : Stmt := top 30
abbrev s_13 : Stmt := inClass (top 32) 0
abbrev s_14 : Stmt := inClass (top 32) 2
abbrev s_15 : Stmt := inClass (top 32) 3
abbrev s_16 : Stmt := inClass (top 32) 4
abbrev s_17 : Stmt := top 33
abbrev s_18 : Stmt := top 6
abbrev s_19 : Stmt := top 37
abbrev s_20 : Stmt := top 7
abbrev s_21 : Stmt := top 10
abbrev s_22 : Stmt := top 11
abbrev s_23 : Stmt := top 38
abbrev s_24 : Stmt := top 39
abbrev s_25 : Stmt := top 48
def fields : List Str := ["kind", "top", "end", "limit", "signs", "codes", "plain", "exchanged", "back"]
theorem fields_inj : ∀ f g, nameOf fields f = nameOf fields g → f = g := nameOf_inj (by decide +kernel) (by decide +kernel)
abbrev gx (K : PySem.W.Frag) (ev : Ev) : Gx := ⟨K, ev.ca, nameOf fields, fields_inj⟩
/-- _law_dice: _law_script, _law_k, _law_found, _law_cell -/
def c_0_0 : PE := .lc [3] (.one 3) (.of (.var 0)) (.some (.cmp .ge (.var 3) (.bin .pow (.cI 10) (.cI 18)))) (.var 3)
def w_0_0 : PS := .for (.one 3) (.of (.var 0)) (.cons (.asg 2 (.bin .mod (.bin .add (.bin .mul (.var 2) (.cI 31)) (.bi .abs (.cons (.var 3) .nil))) (.cI 2147483647))) .nil)
def b_0 : PSs := (.cons (.asg 2 (.var 1)) (.cons (w_0_0) (.cons (.ret (.bin .add (.lst (.cons (.var 2) (.cons (.cI 0) .nil))) (c_0_0))) .nil)))
def d_0 : PDef := ⟨2, [false, false], 4, true, b_0⟩
/-- _law_off: _law_d, _law_most, _law_found -/
def b_1 : PSs := (.cons (.ite (.and (.cons (.cmp .eq (.ix (.var 0) (.cI 1)) (.cI 0)) (.cons (.cmp .gt (.bi .len (.cons (.var 0) .nil)) (.cI 2)) .nil))) (.cons (.setix (.var 0) (.cI 1) (.bm .pop1 (.var 0) (.cons (.cI 2) .nil))) .nil) (.nil)) (.cons (.ite (.cmp .gt (.ix (.var 0) (.cI 1)) (.cI 0)) (.cons (.asg 2 (.bin .mod (.ix (.var 0) (.cI 1)) (.var 1))) (.cons (.setix (.var 0) (.cI 1) (.bin .fdiv (.ix (.var 0) (.cI 1)) (.var 1))) (.cons (.ret (.var 2)) .nil))) (.nil)) (.cons (.setix (.var 0) (.cI 0) (.bin .mod (.bin .add (.bin .mul (.ix (.var 0) (.cI 0)) (.cI 48271)) (.cI 11)) (.cI 2147483647))) (.cons (.ret (.bin .mod (.bin .fdiv (.ix (.var 0) (.cI 0)) (.cI 64)) (.var 1))) .nil))))
def d_1 : PDef := ⟨2, [true, false], 3, true, b_1⟩
/-- _law_plain: _law_top, _law_end, _law_sign -/
def c_2_0 : PE := .lc [2] (.one 2) (.rng1 (.var 0)) (.some (.cmp .ne (.var 2) (.var 1))) (.var 2)
def b_2 : PSs := (.cons (.ret (c_2_0)) .nil)
def d_2 : PDef := ⟨2, [false, false], 3, true, b_2⟩
/-- _law_size: _law_d -/
def b_3 : PSs := (.cons (.ret (.ix (.lst (.cons (.cI 3) (.cons (.cI 3) (.cons (.cI 4) (.cons (.cI 4) (.cons (.cI 5) (.cons (.bin .add (.cI 3) (.bin .mod (.bin .fdiv (.ix (.var 0) (.cI 0)) (.cI 7)) (.cI 14))) (.cons (.cI 8) (.cons (.cI 16) .nil))))))))) (.call 1 (.cons (.var 0) (.cons (.cI 8) .nil))))) .nil)
def d_3 : PDef := ⟨1, [true], 1, true, b_3⟩
/-- _law_body: _law_d, _law_top, _law_end, _law_most, _law_size_here, _law_kind, _law_one, _law_found, _law_k -/
def w_4_0 : PS := .for (.one 8) (.rng1 (.var 4)) (.cons (.ite (.or (.cons (.cmp .eq (.var 5) (.cI 0)) (.cons (.cmp .eq (.call 1 (.cons (.var 0) (.cons (.cI 6) .nil))) (.cI 0)) .nil))) (.cons (.ex (.bm .append (.var 7) (.cons (.call 1 (.cons (.var 0) (.cons (.var 1) .nil))) .nil))) .nil) (.cons (.ex (.bm .append (.var 7) (.cons (.ix (.lst (.cons (.var 6) (.cons (.var 2) (.cons (.var 6) .nil)))) (.bin .sub (.var 5) (.cI 1))) .nil))) .nil)) .nil)
def b_4 : PSs := (.cons (.asg 4 (.call 1 (.cons (.var 0) (.cons (.bin .add (.var 3) (.cI 1)) .nil)))) (.cons (.asg 5 (.call 1 (.cons (.var 0) (.cons (.cI 4) .nil)))) (.cons (.asg 6 (.call 1 (.cons (.var 0) (.cons (.var 1) .nil)))) (.cons (.asg 7 (.lst (.nil))) (.cons (w_4_0) (.cons (.ret (.var 7)) .nil))))))
def d_4 : PDef := ⟨4, [true, false, false, false], 9, true, b_4⟩
/-- _law_number: _law_row, _law_many, _law_found, _law_ahead, _law_lists, _law_sign -/
def w_5_0 : PS := .for (.one 5) (.of (.var 0)) (.cons (.asg 2 (.bin .add (.bin .mul (.var 2) (.var 1)) (.var 5))) (.cons (.asg 3 (.bin .add (.var 3) (.var 4))) (.cons (.asg 4 (.bin .mul (.var 4) (.var 1))) .nil)))
def b_5 : PSs := (.cons (.asg 2 (.cI 0)) (.cons (.asg 3 (.cI 0)) (.cons (.asg 4 (.cI 1)) (.cons (w_5_0) (.cons (.ret (.bin .add (.var 2) (.var 3))) .nil)))))
def d_5 : PDef := ⟨2, [false, false], 6, true, b_5⟩
/-- _law_list: _law_number_here, _law_many, _law_size_here, _law_lists, _law_found, _law_turn -/
def w_6_0 : PS := .for (.one 5) (.rng1 (.var 2)) (.cons (.ex (.bm .insert (.var 4) (.cons (.cI 0) (.cons (.bin .mod (.var 0) (.var 1)) .nil)))) (.cons (.asg 0 (.bin .fdiv (.var 0) (.var 1))) .nil))
def w_6_1 : PS := .whl (.cmp .ge (.var 0) (.var 3)) (.cons (.asg 0 (.bin .sub (.var 0) (.var 3))) (.cons (.asg 3 (.bin .mul (.var 3) (.var 1))) (.cons (.asg 2 (.bin .add (.var 2) (.cI 1))) .nil)))
def b_6 : PSs := (.cons (.asg 2 (.cI 0)) (.cons (.asg 3 (.cI 1)) (.cons (w_6_1) (.cons (.asg 4 (.lst (.nil))) (.cons (w_6_0) (.cons (.ret (.var 4)) .nil))))))
def d_6 : PDef := ⟨2, [false, false], 6, true, b_6⟩
/-- row_number: row, many, number, sign -/
def w_7_0 : PS := .for (.one 3) (.of (.var 0)) (.cons (.asg 2 (.bin .add (.bin .add (.bin .mul (.var 2) (.var 1)) (.var 3)) (.cI 1))) .nil)
def b_7 : PSs := (.cons (.asg 2 (.cI 0)) (.cons (w_7_0) (.cons (.ret (.var 2)) .nil)))
def d_7 : PDef := ⟨2, [false, false], 4, true, b_7⟩
/-- row_at: number, many, row -/
def w_8_0 : PS := .whl (.cmp .gt (.var 0) (.cI 0)) (.cons (.aug 0 .sub (.cI 1)) (.cons (.ex (.bm .append (.var 2) (.cons (.bin .mod (.var 0) (.var 1)) .nil))) (.cons (.asg 0 (.bin .fdiv (.var 0) (.var 1))) .nil)))
def b_8 : PSs := (.cons (.asg 2 (.lst (.nil))) (.cons (w_8_0) (.cons (.ret (.bi .listRev (.cons (.var 2) .nil))) .nil)))
def d_8 : PDef := ⟨2, [false, false], 3, true, b_8⟩
/-- core: way -/
def w_9_0 : PS := .whl (.cmp .eq (.ix (.var 0) (.cI 0)) (.cS "turned")) (.cons (.asg 0 (.ix (.var 0) (.cI 2))) .nil)
def b_9 : PSs := (.cons (w_9_0) (.cons (.ret (.var 0)) .nil))
def d_9 : PDef := ⟨1, [false], 1, true, b_9⟩
/-- turns: way, found -/
def w_10_0 : PS := .whl (.cmp .eq (.ix (.var 0) (.cI 0)) (.cS "turned")) (.cons (.ex (.bm .append (.var 1) (.cons (.ix (.var 0) (.cI 1)) .nil))) (.cons (.asg 0 (.ix (.var 0) (.cI 2))) .nil))
def b_10 : PSs := (.cons (.asg 1 (.lst (.nil))) (.cons (w_10_0) (.cons (.ret (.var 1)) .nil)))
def d_10 : PDef := ⟨1, [false], 2, true, b_10⟩
/-- fault_of: way, word, top, end -/
def b_11 : PSs := (.cons (.asgT [1, 2, 3] (.sl (.var 0) .none (.some (.cI 3)))) (.cons (.ite (.not (.chain .le .le (.gI "LEAST_TOP" 3) (.var 2) (.gI "MOST_TOP" 16))) (.cons (.ret (.cS "top")) .nil) (.nil)) (.cons (.ite (.not (.chain .le .lt (.cI 0) (.var 3) (.var 2))) (.cons (.ret (.cS "end")) .nil) (.nil)) (.cons (.ite (.and (.cons (.cmp .eq (.var 1) (.cS "codes")) (.cons (.not (.nvr)) .nil))) (.cons (.ret (.cS "codes")) .nil) (.nil)) (.cons (.ite (.and (.cons (.cmp .eq (.var 1) (.cS "escapes")) (.cons (.not (.nvr)) .nil))) (.cons (.ret (.cS "mark")) .nil) (.nil)) (.cons (.ite (.and (.cons (.cmp .eq (.var 1) (.cS "escapes")) (.cons (.not (.nvr)) .nil))) (.cons (.ret (.cS "pairs")) .nil) (.nil)) (.cons (.ite (.and (.cons (.cmp .eq (.var 1) (.cS "counts")) (.cons (.not (.chain .le .lt (.cI 2) (.ix (.var 0) (.cI 3)) (.var 2))) .nil))) (.cons (.ret (.cS "limit")) .nil) (.nil)) (.cons (.ret (.cN)) .nil))))))))
def d_11 : PDef := ⟨1, [false], 4, true, b_11⟩
/-- need_way: way, why, signs -/
def w_12_0 : PS := .for (.one 2) (.of (.call 10 (.cons (.var 0) .nil))) (.cons (.ite (.cmp .ne (.bi .sorted (.cons (.var 2) .nil)) (.bi .listRange (.cons (.ix (.call 9 (.cons (.var 0) .nil)) (.cI 1)) .nil))) (.cons (.never) .nil) (.nil)) .nil)
def b_12 : PSs := (.cons (.ite (.cmp .gt (.bi .len (.cons (.call 10 (.cons (.var 0) .nil)) .nil)) (.gI "MOST_TURNS" 3)) (.cons (.never) .nil) (.nil)) (.cons (.asg 1 (.call 11 (.cons (.call 9 (.cons (.var 0) .nil)) .nil))) (.cons (.ite (.notN (.var 1)) (.cons (.never) .nil) (.nil)) (.cons (w_12_0) .nil))))
def d_12 : PDef := ⟨1, [false], 3, true, b_12⟩
/-- Plan.__init__: self, way, inner, signs, sign, codes -/
def c_13_0 : PE := .lc [4] (.one 4) (.of (.fld (.var 0) 0 4)) .none (.ix (.var 5) (.var 4))
def c_13_1 : PE := .lc [4] (.one 4) (.of (.fld (.var 0) 0 4)) .none (.ix (.var 3) (.var 4))
def w_13_0 : PS := .for (.one 3) (.of (.call 10 (.cons (.var 1) .nil))) (.cons (.setfld 0 0 4 (c_13_1)) .nil)
def b_13 : PSs := (.cons (.ex (.call 12 (.cons (.var 1) .nil))) (.cons (.asg 2 (.call 9 (.cons (.var 1) .nil))) (.cons (.setfld 0 0 0 (.ix (.var 2) (.cI 0))) (.cons (.setfld 0 0 1 (.ix (.var 2) (.cI 1))) (.cons (.setfld 0 0 2 (.ix (.var 2) (.cI 2))) (.cons (.setfld 0 0 3 (.ife (.cmp .eq (.fld (.var 0) 0 0) (.cS "counts")) (.ix (.var 2) (.cI 3)) (.cI 0))) (.cons (.setfld 0 0 4 (.bi .listRange (.cons (.fld (.var 0) 0 1) .nil))) (.cons (w_13_0) (.cons (.setfld 0 0 5 (.lst (.nil))) (.cons (.ite (.cmp .isin (.fld (.var 0) 0 0) (.tup (.cons (.cS "codes") (.cons (.cS "escapes") .nil)))) (.cons (.asg 5 (.ife (.cmp .eq (.fld (.var 0) 0 0) (.cS "codes")) (.ix (.var 2) (.cI 3)) (.nvr))) (.cons (.setfld 0 0 0 (.cS "codes")) (.cons (.setfld 0 0 5 (c_13_0)) (.cons (.setfld 0 0 4 (.bi .listRange (.cons (.fld (.var 0) 0 1) .nil))) .nil)))) (.nil)) .nil))))))))))
def d_13 : PDef := ⟨2, [true, false], 6, true, b_13⟩
/-- Plan.plain: self, sign -/
def c_14_0 : PE := .lc [1] (.one 1) (.rng1 (.fld (.var 0) 0 1)) (.some (.cmp .ne (.var 1) (.fld (.var 0) 0 2))) (.var 1)
def b_14 : PSs := (.cons (.ret (c_14_0)) .nil)
def d_14 : PDef := ⟨1, [false], 2, true, b_14⟩
/-- Plan.exchanged: self, row, sign -/
def c_15_0 : PE := .lc [2] (.one 2) (.of (.var 1)) .none (.ix (.fld (.var 0) 0 4) (.var 2))
def b_15 : PSs := (.cons (.ret (c_15_0)) .nil)
def d_15 : PDef := ⟨2, [false, false], 3, true, b_15⟩
/-- Plan.back: self, row, sign -/
def c_16_0 : PE := .lc [2] (.one 2) (.of (.var 1)) .none (.bm .index (.fld (.var 0) 0 4) (.cons (.var 2) .nil))
def b_16 : PSs := (.cons (.ret (c_16_0)) .nil)
def d_16 : PDef := ⟨2, [false, false], 3, true, b_16⟩
/-- need_signs: plan, signs, many, at, sign -/
def w_17_0 : PS := .for (.many [3, 4]) (.enum (.var 1)) (.cons (.ite (.not (.chain .le .lt (.cI 0) (.var 4) (.fld (.var 0) 0 1))) (.cons (.ret (.var 3)) .nil) (.nil)) .nil)
def b_17 : PSs := (.cons (.ite (.cmp .gt (.bi .len (.cons (.var 1) .nil)) (.var 2)) (.cons (.ret (.var 2)) .nil) (.nil)) (.cons (w_17_0) (.cons (.ret (.cN)) .nil)))
def d_17 : PDef := ⟨3, [false, false, false], 5, true, b_17⟩
/-- coded: plan, body, found, sign, row, plain, at -/
def c_18_0 : PE := .lc [6] (.one 6) (.of (.call 8 (.cons (.call 7 (.cons (.var 4) (.cons (.fld (.var 0) 0 1) .nil))) (.cons (.bin .sub (.fld (.var 0) 0 1) (.cI 1)) .nil)))) .none (.ix (.var 5) (.var 6))
def w_18_0 : PS := .for (.one 3) (.of (.var 1)) (.cons (.ex (.bm .extend (.var 2) (.cons (.ix (.fld (.var 0) 0 5) (.var 3)) .nil))) .nil)
def b_18 : PSs := (.cons (.ite (.cmp .eq (.fld (.var 0) 0 0) (.cS "codes")) (.cons (.asg 2 (.lst (.nil))) (.cons (w_18_0) (.cons (.ret (.var 2)) .nil))) (.nil)) (.cons (.asg 4 (.meth (.var 0) 0 7 15 (.cons (.var 1) .nil))) (.cons (.ite (.cmp .eq (.fld (.var 0) 0 0) (.cS "counts")) (.cons (.ret (.nvr)) .nil) (.nil)) (.cons (.asg 5 (.meth (.var 0) 0 6 14 .nil)) (.cons (.ret (c_18_0)) .nil)))))
def d_18 : PDef := ⟨2, [false, false], 7, true, b_18⟩
/-- framed: way, body, plan, at -/
def b_19 : PSs := (.cons (.asg 2 (.make 0 13 (.cons (.var 0) .nil))) (.cons (.asg 3 (.call 17 (.cons (.var 2) (.cons (.var 1) (.cons (.gI "MOST_BODY" 60) .nil))))) (.cons (.ite (.notN (.var 3)) (.cons (.never) .nil) (.nil)) (.cons (.ret (.bin .add (.call 18 (.cons (.var 2) (.cons (.var 1) .nil))) (.lst (.cons (.fld (.var 2) 0 2) .nil)))) .nil))))
def d_19 : PDef := ⟨2, [false, false], 4, true, b_19⟩
/-- first_state: plan -/
def b_20 : PSs := (.cons (.ite (.cmp .eq (.fld (.var 0) 0 0) (.cS "counts")) (.cons (.ret (.tup (.cons (.cI 0) (.cons (.cS "none") (.cons (.cB false) .nil))))) .nil) (.nil)) (.cons (.ret (.tup (.nil))) .nil))
def d_20 : PDef := ⟨1, [false], 1, true, b_20⟩
/-- step: plan, state, sign -/
def b_21 : PSs := (.cons (.ite (.cmp .eq (.fld (.var 0) 0 0) (.cS "codes")) (.cons (.ret (.nvr)) .nil) (.nil)) (.cons (.ite (.cmp .eq (.fld (.var 0) 0 0) (.cS "counts")) (.cons (.ret (.nvr)) .nil) (.nil)) (.cons (.ret (.tup (.cons (.bin .add (.var 1) (.tup (.cons (.var 2) .nil))) (.cons (.lst (.nil)) .nil)))) .nil)))
def d_21 : PDef := ⟨3, [false, false, false], 3, true, b_21⟩
/-- last: plan, state, left, sort, bare, plain, number, sign -/
def c_22_0 : PE := .lc [7] (.one 7) (.of (.var 1)) .none (.bm .index (.var 5) (.cons (.var 7) .nil))
def b_22 : PSs := (.cons (.ite (.cmp .eq (.fld (.var 0) 0 0) (.cS "codes")) (.cons (.ret (.ife (.cmp .eq (.var 1) (.tup (.nil))) (.lst (.nil)) (.cN))) .nil) (.nil)) (.cons (.ite (.cmp .eq (.fld (.var 0) 0 0) (.cS "counts")) (.cons (.asgT [2, 3, 4] (.var 1)) (.cons (.ret (.ife (.and (.cons (.cmp .eq (.var 2) (.cI 0)) (.cons (.cmp .ne (.var 3) (.cS "none")) (.cons (.not (.var 4)) .nil)))) (.lst (.nil)) (.cN))) .nil)) (.nil)) (.cons (.asg 5 (.meth (.var 0) 0 6 14 .nil)) (.cons (.asg 6 (.call 7 (.cons (c_22_0) (.cons (.bin .sub (.fld (.var 0) 0 1) (.cI 1)) .nil)))) (.cons (.ret (.meth (.var 0) 0 8 16 (.cons (.call 8 (.cons (.var 6) (.cons (.fld (.var 0) 0 1) .nil))) .nil))) .nil)))))
def d_22 : PDef := ⟨2, [false, false], 8, true, b_22⟩
/-- found_body: plan, row, state, body, sign, told, more -/
def w_23_0 : PS := .for (.one 4) (.of (.var 1)) (.cons (.asg 5 (.call 21 (.cons (.var 0) (.cons (.var 2) (.cons (.var 4) .nil))))) (.cons (.ite (.isN (.var 5)) (.cons (.ret (.cN)) .nil) (.nil)) (.cons (.asg 2 (.ix (.var 5) (.cI 0))) (.cons (.ex (.bm .extend (.var 3) (.cons (.ix (.var 5) (.cI 1)) .nil))) .nil))))
def b_23 : PSs := (.cons (.asg 2 (.call 20 (.cons (.var 0) .nil))) (.cons (.asg 3 (.lst (.nil))) (.cons (w_23_0) (.cons (.asg 6 (.call 22 (.cons (.var 0) (.cons (.var 2) .nil)))) (.cons (.ite (.or (.cons (.isN (.var 6)) (.cons (.cmp .gt (.bin .add (.bi .len (.cons (.var 3) .nil)) (.bi .len (.cons (.var 6) .nil))) (.gI "MOST_BODY" 60)) .nil))) (.cons (.ret (.cN)) .nil) (.nil)) (.cons (.ret (.bin .add (.var 3) (.var 6))) .nil))))))
def d_23 : PDef := ⟨2, [false, false], 7, true, b_23⟩
/-- body_of: way, signs, plan, at -/
def b_24 : PSs := (.cons (.asg 2 (.make 0 13 (.cons (.var 0) .nil))) (.cons (.asg 3 (.call 17 (.cons (.var 2) (.cons (.var 1) (.cons (.gI "MOST_SIGNS" 400) .nil))))) (.cons (.ite (.notN (.var 3)) (.cons (.never) .nil) (.nil)) (.cons (.ite (.or (.cons (.cmp .notin (.fld (.var 2) 0 2) (.var 1)) (.cons (.cmp .lt (.bm .index (.var 1) (.cons (.fld (.var 2) 0 2) .nil)) (.bin .sub (.bi .len (.cons (.var 1) .nil)) (.cI 1))) .nil))) (.cons (.ret (.cN)) .nil) (.nil)) (.cons (.ret (.call 23 (.cons (.var 2) (.cons (.sl (.var 1) .none (.some (.neg (.cI 1)))) .nil)))) .nil)))))
def d_24 : PDef := ⟨2, [false, false], 4, true, b_24⟩
/-- law: _law_script, _law_d, _law_top, _law_end, _law_way, _law_plain_here, _law_known, _law_turn, _law_body_here, _law_number_here, _law_frame, _law_found, _law_sign, _law_size_here, _law_many, _law_other, _law_there -/
def w_25_0 : PS := .for (.many [14, 15]) (.of (.var 6)) (.cons (.asg 16 (.call 19 (.cons (.var 4) (.cons (.var 15) .nil)))) (.cons (.ite (.cmp .ne (.cmp .lt (.tup (.cons (.var 13) (.cons (.var 8) .nil))) (.tup (.cons (.var 14) (.cons (.var 15) .nil)))) (.cmp .lt (.tup (.cons (.bi .len (.cons (.var 10) .nil)) (.cons (.sl (.var 10) .none (.some (.neg (.cI 1)))) .nil))) (.tup (.cons (.bi .len (.cons (.var 16) .nil)) (.cons (.sl (.var 16) .none (.some (.neg (.cI 1)))) .nil))))) (.cons (.ret (.cB false)) .nil) (.nil)) .nil))
def c_25_0 : PE := .lc [12] (.one 12) (.of (.sl (.var 10) .none (.some (.neg (.cI 1))))) .none (.bm .index (.var 5) (.cons (.var 12) .nil))
def w_25_1 : PS := .for (.many [13, 8]) (.of (.var 6)) (.cons (.asg 10 (.call 19 (.cons (.var 4) (.cons (.var 8) .nil)))) (.cons (.ite (.cmp .ne (.call 5 (.cons (c_25_0) (.cons (.bin .sub (.var 2) (.cI 1)) .nil))) (.call 5 (.cons (.var 8) (.cons (.var 2) .nil)))) (.cons (.ret (.cB false)) .nil) (.nil)) (.cons (w_25_0) .nil)))
def c_25_1 : PE := .lc [12] (.one 12) (.of (.var 8)) .none (.ix (.var 5) (.call 1 (.cons (.var 1) (.cons (.bin .sub (.var 2) (.cI 1)) .nil))))
def w_25_2 : PS := .for (.one 7) (.rng1 (.cI 6)) (.cons (.asg 8 (.call 4 (.cons (.var 1) (.cons (.var 2) (.cons (.var 3) (.cons (.ix (.lst (.cons (.cI 4) (.cons (.cI 20) (.cons (.cI 59) .nil)))) (.call 1 (.cons (.var 1) (.cons (.cI 3) .nil)))) .nil)))))) (.cons (.asg 9 (.call 5 (.cons (.var 8) (.cons (.var 2) .nil)))) (.cons (.ex (.bm .append (.var 6) (.cons (.tup (.cons (.bi .len (.cons (.var 8) .nil)) (.cons (.var 8) .nil))) .nil))) (.cons (.ex (.bm .append (.var 6) (.cons (.tup (.cons (.bi .len (.cons (.call 6 (.cons (.bin .add (.var 9) (.cI 1)) (.cons (.var 2) .nil))) .nil)) (.cons (.call 6 (.cons (.bin .add (.var 9) (.cI 1)) (.cons (.var 2) .nil))) .nil))) .nil))) (.cons (.asg 10 (.bin .add (c_25_1) (.lst (.cons (.var 3) .nil)))) (.cons (.asg 11 (.call 24 (.cons (.var 4) (.cons (.var 10) .nil)))) (.cons (.ite (.or (.cons (.isN (.var 11)) (.cons (.cmp .ne (.call 19 (.cons (.var 4) (.cons (.var 11) .nil))) (.var 10)) .nil))) (.cons (.ret (.cB false)) .nil) (.nil)) .nil)))))))
def b_25 : PSs := (.cons (.asg 1 (.call 0 (.cons (.var 0) (.cons (.cI 0) .nil)))) (.cons (.asg 2 (.call 3 (.cons (.var 1) .nil))) (.cons (.asg 3 (.call 1 (.cons (.var 1) (.cons (.var 2) .nil)))) (.cons (.asg 4 (.tup (.cons (.cS "ranks") (.cons (.var 2) (.cons (.var 3) .nil))))) (.cons (.asg 5 (.call 2 (.cons (.var 2) (.cons (.var 3) .nil)))) (.cons (.asg 6 (.lst (.nil))) (.cons (w_25_2) (.cons (w_25_1) (.cons (.ret (.cB true)) .nil)))))))))
def d_25 : PDef := ⟨1, [false], 17, true, b_25⟩
def T : Tab
  | 0 => some d_0
  | 1 => some d_1
  | 2 => some d_2
  | 3 => some d_3
  | 4 => some d_4
  | 5 => some d_5
  | 6 => some d_6
  | 7 => some d_7
  | 8 => some d_8
  | 9 => some d_9
  | 10 => some d_10
  | 11 => some d_11
  | 12 => some d_12
  | 13 => some d_13
  | 14 => some d_14
  | 15 => some d_15
  | 16 => some d_16
  | 17 => some d_17
  | 18 => some d_18
  | 19 => some d_19
  | 20 => some d_20
  | 21 => some d_21
  | 22 => some d_22
  | 23 => some d_23
  | 24 => some d_24
  | 25 => some d_25
  | _ => none
def nms : Nat → List Str
  | 0 => ["_law_script", "_law_k"]
  | 1 => ["_law_d", "_law_most"]
  | 2 => ["_law_top", "_law_end"]
  | 3 => ["_law_d"]
  | 4 => ["_law_d", "_law_top", "_law_end", "_law_most"]
  | 5 => ["_law_row", "_law_many"]
  | 6 => ["_law_number_here", "_law_many"]
  | 7 => ["row", "many"]
  | 8 => ["number", "many"]
  | 9 => ["way"]
  | 10 => ["way"]
  | 11 => ["way"]
  | 12 => ["way"]
  | 13 => ["self", "way"]
  | 14 => ["self"]
  | 15 => ["self", "row"]
  | 16 => ["self", "row"]
  | 17 => ["plan", "signs", "many"]
  | 18 => ["plan", "body"]
  | 19 => ["way", "body"]
  | 20 => ["plan"]
  | 21 => ["plan", "state", "sign"]
  | 22 => ["plan", "state"]
  | 23 => ["plan", "row"]
  | 24 => ["way", "signs"]
  | 25 => ["_law_script"]
  | _ => []
/-- what the top has written -/
structure Txt (K : PySem.W.Frag) (mg : Str → Option Value) (ev : Ev) : Prop where
  F_0 : Fun K "_law_dice" "_law_dice" s_0 (ev.fa 0) (ev.fd 0)
  b_0 : Binds K (ev.fd 0) ["_law_script", "_law_k"] []
  m_0 : mg "_law_dice" = some (.ref (ev.fa 0))
  k_0 : PySem.W.keepIn K (.ref (ev.fa 0)) = true
  F_1 : Fun K "_law_off" "_law_off" s_1 (ev.fa 1) (ev.fd 1)
  b_1 : Binds K (ev.fd 1) ["_law_d", "_law_most"] []
  m_1 : mg "_law_off" = some (.ref (ev.fa 1))
  k_1 : PySem.W.keepIn K (.ref (ev.fa 1)) = true
  F_2 : Fun K "_law_plain" "_law_plain" s_2 (ev.fa 2) (ev.fd 2)
  b_2 : Binds K (ev.fd 2) ["_law_top", "_law_end"] []
  m_2 : mg "_law_plain" = some (.ref (ev.fa 2))
  k_2 : PySem.W.keepIn K (.ref (ev.fa 2)) = true
  F_3 : Fun K "_law_size" "_law_size" s_3 (ev.fa 3) (ev.fd 3)
  b_3 : Binds K (ev.fd 3) ["_law_d"] []
  m_3 : mg "_law_size" = some (.ref (ev.fa 3))
  k_3 : PySem.W.keepIn K (.ref (ev.fa 3)) = true
  F_4 : Fun K "_law_body" "_law_body" s_4 (ev.fa 4) (ev.fd 4)
  b_4 : Binds K (ev.fd 4) ["_law_d", "_law_top", "_law_end", "_law_most"] []
  m_4 : mg "_law_body" = some (.ref (ev.fa 4))
  k_4 : PySem.W.keepIn K (.ref (ev.fa 4)) = true
  F_5 : Fun K "_law_number" "_law_number" s_5 (ev.fa 5) (ev.fd 5)
  b_5 : Binds K (ev.fd 5) ["_law_row", "_law_many"] []
  m_5 : mg "_law_number" = some (.ref (ev.fa 5))
  k_5 : PySem.W.keepIn K (.ref (ev.fa 5)) = true
  F_6 : Fun K "_law_list" "_law_list" s_6 (ev.fa 6) (ev.fd 6)
  b_6 : Binds K (ev.fd 6) ["_law_number_here", "_law_many"] []
  m_6 : mg "_law_list" = some (.ref (ev.fa 6))
  k_6 : PySem.W.keepIn K (.ref (ev.fa 6)) = true
  F_7 : Fun K "row_number" "row_number" s_7 (ev.fa 7) (ev.fd 7)
  b_7 : Binds K (ev.fd 7) ["row", "many"] []
  m_7 : mg "row_number" = some (.ref (ev.fa 7))
  k_7 : PySem.W.keepIn K (.ref (ev.fa 7)) = true
  F_8 : Fun K "row_at" "row_at" s_8 (ev.fa 8) (ev.fd 8)
  b_8 : Binds K (ev.fd 8) ["number", "many"] []
  m_8 : mg "row_at" = some (.ref (ev.fa 8))
  k_8 : PySem.W.keepIn K (.ref (ev.fa 8)) = true
  F_9 : Fun K "core" "core" s_9 (ev.fa 9) (ev.fd 9)
  b_9 : Binds K (ev.fd 9) ["way"] []
  m_9 : mg "core" = some (.ref (ev.fa 9))
  k_9 : PySem.W.keepIn K (.ref (ev.fa 9)) = true
  F_10 : Fun K "turns" "turns" s_10 (ev.fa 10) (ev.fd 10)
  b_10 : Binds K (ev.fd 10) ["way"] []
  m_10 : mg "turns" = some (.ref (ev.fa 10))
  k_10 : PySem.W.keepIn K (.ref (ev.fa 10)) = true
  F_11 : Fun K "fault_of" "fault_of" s_11 (ev.fa 11) (ev.fd 11)
  b_11 : Binds K (ev.fd 11) ["way"] []
  m_11 : mg "fault_of" = some (.ref (ev.fa 11))
  k_11 : PySem.W.keepIn K (.ref (ev.fa 11)) = true
  F_12 : Fun K "need_way" "need_way" s_12 (ev.fa 12) (ev.fd 12)
  b_12 : Binds K (ev.fd 12) ["way"] []
  m_12 : mg "need_way" = some (.ref (ev.fa 12))
  k_12 : PySem.W.keepIn K (.ref (ev.fa 12)) = true
  F_13 : Fun K "__init__" "Plan.__init__" s_13 (ev.fa 13) (ev.fd 13)
  b_13 : Binds K (ev.fd 13) ["self", "way"] []
  F_14 : Fun K "plain" "Plan.plain" s_14 (ev.fa 14) (ev.fd 14)
  b_14 : Binds K (ev.fd 14) ["self"] []
  F_15 : Fun K "exchanged" "Plan.exchanged" s_15 (ev.fa 15) (ev.fd 15)
  b_15 : Binds K (ev.fd 15) ["self", "row"] []
  F_16 : Fun K "back" "Plan.back" s_16 (ev.fa 16) (ev.fd 16)
  b_16 : Binds K (ev.fd 16) ["self", "row"] []
  F_17 : Fun K "need_signs" "need_signs" s_17 (ev.fa 17) (ev.fd 17)
  b_17 : Binds K (ev.fd 17) ["plan", "signs", "many"] []
  m_17 : mg "need_signs" = some (.ref (ev.fa 17))
  k_17 : PySem.W.keepIn K (.ref (ev.fa 17)) = true
  F_18 : Fun K "coded" "coded" s_18 (ev.fa 18) (ev.fd 18)
  b_18 : Binds K (ev.fd 18) ["plan", "body"] []
  m_18 : mg "coded" = some (.ref (ev.fa 18))
  k_18 : PySem.W.keepIn K (.ref (ev.fa 18)) = true
  F_19 : Fun K "framed" "framed" s_19 (ev.fa 19) (ev.fd 19)
  b_19 : Binds K (ev.fd 19) ["way", "body"] []
  m_19 : mg "framed" = some (.ref (ev.fa 19))
  k_19 : PySem.W.keepIn K (.ref (ev.fa 19)) = true
  F_20 : Fun K "first_state" "first_state" s_20 (ev.fa 20) (ev.fd 20)
  b_20 : Binds K (ev.fd 20) ["plan"] []
  m_20 : mg "first_state" = some (.ref (ev.fa 20))
  k_20 : PySem.W.keepIn K (.ref (ev.fa 20)) = true
  F_21 : Fun K "step" "step" s_21 (ev.fa 21) (ev.fd 21)
  b_21 : Binds K (ev.fd 21) ["plan", "state", "sign"] []
  m_21 : mg "step" = some (.ref (ev.fa 21))
  k_21 : PySem.W.keepIn K (.ref (ev.fa 21)) = true
  F_22 : Fun K "last" "last" s_22 (ev.fa 22) (ev.fd 22)
  b_22 : Binds K (ev.fd 22) ["plan", "state"] []
  m_22 : mg "last" = some (.ref (ev.fa 22))
  k_22 : PySem.W.keepIn K (.ref (ev.fa 22)) = true
  F_23 : Fun K "found_body" "found_body" s_23 (ev.fa 23) (ev.fd 23)
  b_23 : Binds K (ev.fd 23) ["plan", "row"] []
  m_23 : mg "found_body" = some (.ref (ev.fa 23))
  k_23 : PySem.W.keepIn K (.ref (ev.fa 23)) = true
  F_24 : Fun K "body_of" "body_of" s_24 (ev.fa 24) (ev.fd 24)
  b_24 : Binds K (ev.fd 24) ["way", "signs"] []
  m_24 : mg "body_of" = some (.ref (ev.fa 24))
  k_24 : PySem.W.keepIn K (.ref (ev.fa 24)) = true
  F_25 : Fun K "law" "law" s_25 (ev.fa 25) (ev.fd 25)
  b_25 : Binds K (ev.fd 25) ["_law_script"] []
  m_25 : mg "law" = some (.ref (ev.fa 25))
  k_25 : PySem.W.keepIn K (.ref (ev.fa 25)) = true
  cl0 : Cls K (ev.ca 0)
  mc0 : mg "Plan" = some (.ref (ev.ca 0))
  mk0 : Mk K (ev.ca 0) (ev.fa 13)
  na0_codes : NoAttr K (ev.ca 0) "codes"
  na0_end : NoAttr K (ev.ca 0) "end"
  na0_kind : NoAttr K (ev.ca 0) "kind"
  na0_limit : NoAttr K (ev.ca 0) "limit"
  na0_signs : NoAttr K (ev.ca 0) "signs"
  na0_top : NoAttr K (ev.ca 0) "top"
  mt0_back : Meth K (ev.ca 0) "back" (ev.fa 16)
  mt0_exchanged : Meth K (ev.ca 0) "exchanged" (ev.fa 15)
  mt0_plain : Meth K (ev.ca 0) "plain" (ev.fa 14)
  n_abs : mg "abs" = none
  n_enumerate : mg "enumerate" = none
  n_len : mg "len" = none
  n_list : mg "list" = none
  n_range : mg "range" = none
  n_reversed : mg "reversed" = none
  n_sorted : mg "sorted" = none
  c_LEAST_TOP : ∃ t, mg "LEAST_TOP" = some (.int 3 t)
  c_MOST_BODY : ∃ t, mg "MOST_BODY" = some (.int 60 t)
  c_MOST_SIGNS : ∃ t, mg "MOST_SIGNS" = some (.int 400 t)
  c_MOST_TOP : ∃ t, mg "MOST_TOP" = some (.int 16 t)
  c_MOST_TURNS : ∃ t, mg "MOST_TURNS" = some (.int 3 t)
def wf : Nat := 100000
abbrev ev_ (pr : Nat → CF) (n : Nat) : CF := evF T pr wf n
def Lv (P : Program) (w : World) (K : PySem.W.Frag) (mg : Str → Option Value) (base : Heap) (ev : Ev) (pr : Nat → CF) (n : Nat) : Prop := ∀ f d, T f = some d → FnOk P w K mg base CX0 (2 * n + 2) (ev.fa f) (ev.fd f) (nms f) (spI (gx K ev) (evF T pr wf n) (ioOf T f) f)
section
variable {P : Program} {w : World} {K : PySem.W.Frag} {mg : Str → Option Value} {base : Heap} {ev : Ev} {pr : Nat → CF} {n : Nat}
theorem sc_0 : FnScope ["_law_script", "_law_k", "_law_found", "_law_cell"] ["_law_script", "_law_k"] (defScope s_0) := ⟨rfl, rfl, rfl, by decide +kernel, rfl, by decide +kernel, by decide +kernel⟩
theorem ok_0 (Z : Txt K mg ev) (L : Lv P w K mg base ev pr n) : FnOk P w K mg base CX0 (2 * (n + 1) + 2) (ev.fa 0) (ev.fd 0) (nms 0) (spI (gx K ev) (evF T pr wf (n + 1)) (ioOf T 0) 0) := by
  refine fn_go (k := 2 * n + 3) (d := d_0) rfl rfl Z.F_0 sc_0 rfl rfl fun cdv A outer s H E hr => ?_
  have hu := Room.u65 hr
  have hu4 := hr.units
  have hr1 : Room (2 * n + 2) _ := hr.mono (Nat.le_succ _)
  have hN := (sc_0).nd
  exact (rss_cons (rs_asg 2 hN (re_var 1)) (rss_cons (rs_for PassesOwn.never rfl (ri_of (re_var 0)) (rg_one 3 hN) (rss_cons (rs_asg 2 hN (re_bin .mod (re_bin .add (re_bin .mul (re_var 2) (re_int)) (re_biB .abs rfl rfl rfl Z.n_abs rfl (ra_cons (re_var 3) (ra_nil)) bt_abs)) (re_int))) (rss_nil))) (rss_cons (rs_ret (re_bin .add (re_lst (ra_cons (re_var 2) (ra_cons (re_int) (ra_nil)))) (re_lc [("_law_cell", 3)] rfl hN (ri_of (re_var 0)) (show blkC ["_law_script", "_law_k", "_law_found", "_law_cell"] (defScope s_0) _ [("_law_cell", 3)] = true by decide +kernel) (fun _ _ _ _ _ => (rg_one 3 hN)) (fun _ _ _ _ _ => (rc_some (rt_cmp .ge (re_var 3) (re_bin .pow (re_int) (re_int)) hu))) (fun _ _ _ _ _ => (re_var 3)) (by decide)))) (rss_nil))))
theorem sc_1 : FnScope ["_law_d", "_law_most", "_law_found"] ["_law_d", "_law_most"] (defScope s_1) := ⟨rfl, rfl, rfl, by decide +kernel, rfl, by decide +kernel, by decide +kernel⟩
theorem ok_1 (Z : Txt K mg ev) (L : Lv P w K mg base ev pr n) : FnOk P w K mg base CX0 (2 * (n + 1) + 2) (ev.fa 1) (ev.fd 1) (nms 1) (spI (gx K ev) (evF T pr wf (n + 1)) (ioOf T 1) 1) := by
  refine fn_go (k := 2 * n + 3) (d := d_1) rfl rfl Z.F_1 sc_1 rfl rfl fun cdv A outer s H E hr => ?_
  have hu := Room.u65 hr
  have hu4 := hr.units
  have hr1 : Room (2 * n + 2) _ := hr.mono (Nat.le_succ _)
  have hN := (sc_1).nd
  exact (rss_cons (rs_ite (L2.PW.pt (rt_and (rt_cmp .eq (re_ix (re_var 0) (re_int)) (re_int) hu) (rt_and1 (rt_cmp .gt (re_biB .len rfl rfl rfl Z.n_len rfl (ra_cons (re_var 0) (ra_nil)) bt_len) (re_int) hu)))) (rss_cons (rs_setix (re_var 0) (re_int) (re_bm .pop1 PySem.F.slot_list_pop PySem.F.type_list_pop hu4 (re_var 0) (ra_cons (re_int) (ra_nil)))) (rss_nil)) (rss_nil)) (rss_cons (rs_ite (rt_cmp .gt (re_ix (re_var 0) (re_int)) (re_int) hu) (rss_cons (rs_asg 2 hN (re_bin .mod (re_ix (re_var 0) (re_int)) (re_var 1))) (rss_cons (rs_setix (re_var 0) (re_int) (re_bin .fdiv (re_ix (re_var 0) (re_int)) (re_var 1))) (rss_cons (rs_ret (re_var 2)) (rss_nil)))) (rss_nil)) (rss_cons (rs_setix (re_var 0) (re_int) (re_bin .mod (re_bin .add (re_bin .mul (re_ix (re_var 0) (re_int)) (re_int)) (re_int)) (re_int))) (rss_cons (rs_ret (re_bin .mod (re_bin .fdiv (re_ix (re_var 0) (re_int)) (re_int)) (re_var 1))) (rss_nil)))))
theorem sc_2 : FnScope ["_law_top", "_law_end", "_law_sign"] ["_law_top", "_law_end"] (defScope s_2) := ⟨rfl, rfl, rfl, by decide +kernel, rfl, by decide +kernel, by decide +kernel⟩
theorem ok_2 (Z : Txt K mg ev) (L : Lv P w K mg base ev pr n) : FnOk P w K mg base CX0 (2 * (n + 1) + 2) (ev.fa 2) (ev.fd 2) (nms 2) (spI (gx K ev) (evF T pr wf (n + 1)) (ioOf T 2) 2) := by
  refine fn_go (k := 2 * n + 3) (d := d_2) rfl rfl Z.F_2 sc_2 rfl rfl fun cdv A outer s H E hr => ?_
  have hu := Room.u65 hr
  have hu4 := hr.units
  have hr1 : Room (2 * n + 2) _ := hr.mono (Nat.le_succ _)
  have hN := (sc_2).nd
  exact (rss_cons (rs_ret (re_lc [("_law_sign", 2)] rfl hN (ri_rng1 (re_var 0) rfl Z.n_range) (show blkC ["_law_top", "_law_end", "_law_sign"] (defScope s_2) _ [("_law_sign", 2)] = true by decide +kernel) (fun _ _ _ _ _ => (rg_one 2 hN)) (fun _ _ _ _ _ => (rc_some (rt_cmp .ne (re_var 2) (re_var 1) hu))) (fun _ _ _ _ _ => (re_var 2)) (by decide))) (rss_nil))
theorem sc_3 : FnScope ["_law_d"] ["_law_d"] (defScope s_3) := ⟨rfl, rfl, rfl, by decide +kernel, rfl, by decide +kernel, by decide +kernel⟩
theorem ok_3 (Z : Txt K mg ev) (L : Lv P w K mg base ev pr n) : FnOk P w K mg base CX0 (2 * (n + 1) + 2) (ev.fa 3) (ev.fd 3) (nms 3) (spI (gx K ev) (evF T pr wf (n + 1)) (ioOf T 3) 3) := by
  refine fn_go (k := 2 * n + 3) (d := d_3) rfl rfl Z.F_3 sc_3 rfl rfl fun cdv A outer s H E hr => ?_
  have hu := Room.u65 hr
  have hu4 := hr.units
  have hr1 : Room (2 * n + 2) _ := hr.mono (Nat.le_succ _)
  have hN := (sc_3).nd
  exact (rss_cons (rs_ret (re_ix (re_lst (ra_cons (re_int) (ra_cons (re_int) (ra_cons (re_int) (ra_cons (re_int) (ra_cons (re_int) (ra_cons (re_bin .add (re_int) (re_bin .mod (re_bin .fdiv (re_ix (re_var 0) (re_int)) (re_int)) (re_int))) (ra_cons (re_int) (ra_cons (re_int) (ra_nil)))))))))) (re_call (L 1 _ rfl) hr1 rfl Z.m_1 Z.k_1 Z.b_1 (ra_cons (re_var 0) (ra_cons (re_int) (ra_nil)))))) (rss_nil))
theorem sc_4 : FnScope ["_law_d", "_law_top", "_law_end", "_law_most", "_law_size_here", "_law_kind", "_law_one", "_law_found", "_law_k"] ["_law_d", "_law_top", "_law_end", "_law_most"] (defScope s_4) := ⟨rfl, rfl, rfl, by decide +kernel, rfl, by decide +kernel, by decide +kernel⟩
theorem ok_4 (Z : Txt K mg ev) (L : Lv P w K mg base ev pr n) : FnOk P w K mg base CX0 (2 * (n + 1) + 2) (ev.fa 4) (ev.fd 4) (nms 4) (spI (gx K ev) (evF T pr wf (n + 1)) (ioOf T 4) 4) := by
  refine fn_go (k := 2 * n + 3) (d := d_4) rfl rfl Z.F_4 sc_4 rfl rfl fun cdv A outer s H E hr => ?_
  have hu := Room.u65 hr
  have hu4 := hr.units
  have hr1 : Room (2 * n + 2) _ := hr.mono (Nat.le_succ _)
  have hN := (sc_4).nd
  exact (rss_cons (rs_asg 4 hN (re_call (L 1 _ rfl) hr1 rfl Z.m_1 Z.k_1 Z.b_1 (ra_cons (re_var 0) (ra_cons (re_bin .add (re_var 3) (re_int)) (ra_nil))))) (rss_cons (rs_asg 5 hN (re_call (L 1 _ rfl) hr1 rfl Z.m_1 Z.k_1 Z.b_1 (ra_cons (re_var 0) (ra_cons (re_int) (ra_nil))))) (rss_cons (rs_asg 6 hN (re_call (L 1 _ rfl) hr1 rfl Z.m_1 Z.k_1 Z.b_1 (ra_cons (re_var 0) (ra_cons (re_var 1) (ra_nil))))) (rss_cons (rs_asg 7 hN (re_lst (ra_nil))) (rss_cons (rs_for PassesOwn.never rfl (ri_rng1 (re_var 4) rfl Z.n_range) (rg_one 8 hN) (rss_cons (rs_ite (L2.PW.pt (rt_or (rt_cmp .eq (re_var 5) (re_int) hu) (rt_or1 (rt_cmp .eq (re_call (L 1 _ rfl) hr1 rfl Z.m_1 Z.k_1 Z.b_1 (ra_cons (re_var 0) (ra_cons (re_int) (ra_nil)))) (re_int) hu)))) (rss_cons (rs_ex (re_bm .append PySem.F.slot_list_append PySem.F.type_list_append hu4 (re_var 7) (ra_cons (re_call (L 1 _ rfl) hr1 rfl Z.m_1 Z.k_1 Z.b_1 (ra_cons (re_var 0) (ra_cons (re_var 1) (ra_nil)))) (ra_nil)))) (rss_nil)) (rss_cons (rs_ex (re_bm .append PySem.F.slot_list_append PySem.F.type_list_append hu4 (re_var 7) (ra_cons (re_ix (re_lst (ra_cons (re_var 6) (ra_cons (re_var 2) (ra_cons (re_var 6) (ra_nil))))) (re_bin .sub (re_var 5) (re_int))) (ra_nil)))) (rss_nil))) (rss_nil))) (rss_cons (rs_ret (re_var 7)) (rss_nil)))))))
theorem sc_5 : FnScope ["_law_row", "_law_many", "_law_found", "_law_ahead", "_law_lists", "_law_sign"] ["_law_row", "_law_many"] (defScope s_5) := ⟨rfl, rfl, rfl, by decide +kernel, rfl, by decide +kernel, by decide +kernel⟩
theorem ok_5 (Z : Txt K mg ev) (L : Lv P w K mg base ev pr n) : FnOk P w K mg base CX0 (2 * (n + 1) + 2) (ev.fa 5) (ev.fd 5) (nms 5) (spI (gx K ev) (evF T pr wf (n + 1)) (ioOf T 5) 5) := by
  refine fn_go (k := 2 * n + 3) (d := d_5) rfl rfl Z.F_5 sc_5 rfl rfl fun cdv A outer s H E hr => ?_
  have hu := Room.u65 hr
  have hu4 := hr.units
  have hr1 : Room (2 * n + 2) _ := hr.mono (Nat.le_succ _)
  have hN := (sc_5).nd
  exact (rss_cons (rs_asg 2 hN (re_int)) (rss_cons (rs_asg 3 hN (re_int)) (rss_cons (rs_asg 4 hN (re_int)) (rss_cons (rs_for PassesOwn.never rfl (ri_of (re_var 0)) (rg_one 5 hN) (rss_cons (rs_asg 2 hN (re_bin .add (re_bin .mul (re_var 2) (re_var 1)) (re_var 5))) (rss_cons (rs_asg 3 hN (re_bin .add (re_var 3) (re_var 4))) (rss_cons (rs_asg 4 hN (re_bin .mul (re_var 4) (re_var 1))) (rss_nil))))) (rss_cons (rs_ret (re_bin .add (re_var 2) (re_var 3))) (rss_nil))))))
theorem sc_6 : FnScope ["_law_number_here", "_law_many", "_law_size_here", "_law_lists", "_law_found", "_law_turn"] ["_law_number_here", "_law_many"] (defScope s_6) := ⟨rfl, rfl, rfl, by decide +kernel, rfl, by decide +kernel, by decide +kernel⟩
theorem ok_6 (Z : Txt K mg ev) (L : Lv P w K mg base ev pr n) : FnOk P w K mg base CX0 (2 * (n + 1) + 2) (ev.fa 6) (ev.fd 6) (nms 6) (spI (gx K ev) (evF T pr wf (n + 1)) (ioOf T 6) 6) := by
  refine fn_go (k := 2 * n + 3) (d := d_6) rfl rfl Z.F_6 sc_6 rfl rfl fun cdv A outer s H E hr => ?_
  have hu := Room.u65 hr
  have hu4 := hr.units
  have hr1 : Room (2 * n + 2) _ := hr.mono (Nat.le_succ _)
  have hN := (sc_6).nd
  exact (rss_cons (rs_asg 2 hN (re_int)) (rss_cons (rs_asg 3 hN (re_int)) (rss_cons (rs_whl PassesOwn.never (rt_cmp .ge (re_var 0) (re_var 3) hu) (rss_cons (rs_asg 0 hN (re_bin .sub (re_var 0) (re_var 3))) (rss_cons (rs_asg 3 hN (re_bin .mul (re_var 3) (re_var 1))) (rss_cons (rs_asg 2 hN (re_bin .add (re_var 2) (re_int))) (rss_nil))))) (rss_cons (rs_asg 4 hN (re_lst (ra_nil))) (rss_cons (rs_for PassesOwn.never rfl (ri_rng1 (re_var 2) rfl Z.n_range) (rg_one 5 hN) (rss_cons (rs_ex (re_bm .insert PySem.F.slot_list_insert PySem.F.type_list_insert hu4 (re_var 4) (ra_cons (re_int) (ra_cons (re_bin .mod (re_var 0) (re_var 1)) (ra_nil))))) (rss_cons (rs_asg 0 hN (re_bin .fdiv (re_var 0) (re_var 1))) (rss_nil)))) (rss_cons (rs_ret (re_var 4)) (rss_nil)))))))
theorem sc_7 : FnScope ["row", "many", "number", "sign"] ["row", "many"] (defScope s_7) := ⟨rfl, rfl, rfl, by decide +kernel, rfl, by decide +kernel, by decide +kernel⟩
theorem ok_7 (Z : Txt K mg ev) (L : Lv P w K mg base ev pr n) : FnOk P w K mg base CX0 (2 * (n + 1) + 2) (ev.fa 7) (ev.fd 7) (nms 7) (spI (gx K ev) (evF T pr wf (n + 1)) (ioOf T 7) 7) := by
  refine fn_go (k := 2 * n + 3) (d := d_7) rfl rfl Z.F_7 sc_7 rfl rfl fun cdv A outer s H E hr => ?_
  have hu := Room.u65 hr
  have hu4 := hr.units
  have hr1 : Room (2 * n + 2) _ := hr.mono (Nat.le_succ _)
  have hN := (sc_7).nd
  exact (rss_cons (rs_asg 2 hN (re_int)) (rss_cons (rs_for PassesOwn.never rfl (ri_of (re_var 0)) (rg_one 3 hN) (rss_cons (rs_asg 2 hN (re_bin .add (re_bin .add (re_bin .mul (re_var 2) (re_var 1)) (re_var 3)) (re_int))) (rss_nil))) (rss_cons (rs_ret (re_var 2)) (rss_nil))))
theorem sc_8 : FnScope ["number", "many", "row"] ["number", "many"] (defScope s_8) := ⟨rfl, rfl, rfl, by decide +kernel, rfl, by decide +kernel, by decide +kernel⟩
theorem ok_8 (Z : Txt K mg ev) (L : Lv P w K mg base ev pr n) : FnOk P w K mg base CX0 (2 * (n + 1) + 2) (ev.fa 8) (ev.fd 8) (nms 8) (spI (gx K ev) (evF T pr wf (n + 1)) (ioOf T 8) 8) := by
  refine fn_go (k := 2 * n + 3) (d := d_8) rfl rfl Z.F_8 sc_8 rfl rfl fun cdv A outer s H E hr => ?_
  have hu := Room.u65 hr
  have hu4 := hr.units
  have hr1 : Room (2 * n + 2) _ := hr.mono (Nat.le_succ _)
  have hN := (sc_8).nd
  exact (rss_cons (rs_asg 2 hN (re_lst (ra_nil))) (rss_cons (rs_whl PassesOwn.never (rt_cmp .gt (re_var 0) (re_int) hu) (rss_cons (rs_augSub 0 hN (re_int)) (rss_cons (rs_ex (re_bm .append PySem.F.slot_list_append PySem.F.type_list_append hu4 (re_var 2) (ra_cons (re_bin .mod (re_var 0) (re_var 1)) (ra_nil)))) (rss_cons (rs_asg 0 hN (re_bin .fdiv (re_var 0) (re_var 1))) (rss_nil))))) (rss_cons (rs_ret (re_listRev rfl rfl Z.n_list rfl Z.n_reversed (re_var 2))) (rss_nil))))
theorem sc_9 : FnScope ["way"] ["way"] (defScope s_9) := ⟨rfl, rfl, rfl, by decide +kernel, rfl, by decide +kernel, by decide +kernel⟩
theorem ok_9 (Z : Txt K mg ev) (L : Lv P w K mg base ev pr n) : FnOk P w K mg base CX0 (2 * (n + 1) + 2) (ev.fa 9) (ev.fd 9) (nms 9) (spI (gx K ev) (evF T pr wf (n + 1)) (ioOf T 9) 9) := by
  refine fn_go (k := 2 * n + 3) (d := d_9) rfl rfl Z.F_9 sc_9 rfl rfl fun cdv A outer s H E hr => ?_
  have hu := Room.u65 hr
  have hu4 := hr.units
  have hr1 : Room (2 * n + 2) _ := hr.mono (Nat.le_succ _)
  have hN := (sc_9).nd
  exact (rss_cons (rs_whl PassesOwn.never (rt_cmp .eq (re_ix (re_var 0) (re_int)) (re_str) hu) (rss_cons (rs_asg 0 hN (re_ix (re_var 0) (re_int))) (rss_nil))) (rss_cons (rs_ret (re_var 0)) (rss_nil)))
theorem sc_10 : FnScope ["way", "found"] ["way"] (defScope s_10) := ⟨rfl, rfl, rfl, by decide +kernel, rfl, by decide +kernel, by decide +kernel⟩
theorem ok_10 (Z : Txt K mg ev) (L : Lv P w K mg base ev pr n) : FnOk P w K mg base CX0 (2 * (n + 1) + 2) (ev.fa 10) (ev.fd 10) (nms 10) (spI (gx K ev) (evF T pr wf (n + 1)) (ioOf T 10) 10) := by
  refine fn_go (k := 2 * n + 3) (d := d_10) rfl rfl Z.F_10 sc_10 rfl rfl fun cdv A outer s H E hr => ?_
  have hu := Room.u65 hr
  have hu4 := hr.units
  have hr1 : Room (2 * n + 2) _ := hr.mono (Nat.le_succ _)
  have hN := (sc_10).nd
  exact (rss_cons (rs_asg 1 hN (re_lst (ra_nil))) (rss_cons (rs_whl PassesOwn.never (rt_cmp .eq (re_ix (re_var 0) (re_int)) (re_str) hu) (rss_cons (rs_ex (re_bm .append PySem.F.slot_list_append PySem.F.type_list_append hu4 (re_var 1) (ra_cons (re_ix (re_var 0) (re_int)) (ra_nil)))) (rss_cons (rs_asg 0 hN (re_ix (re_var 0) (re_int))) (rss_nil)))) (rss_cons (rs_ret (re_var 1)) (rss_nil))))
theorem sc_11 : FnScope ["way", "word", "top", "end"] ["way"] (defScope s_11) := ⟨rfl, rfl, rfl, by decide +kernel, rfl, by decide +kernel, by decide +kernel⟩
theorem ok_11 (Z : Txt K mg ev) (L : Lv P w K mg base ev pr n) : FnOk P w K mg base CX0 (2 * (n + 1) + 2) (ev.fa 11) (ev.fd 11) (nms 11) (spI (gx K ev) (evF T pr wf (n + 1)) (ioOf T 11) 11) := by
  refine fn_go (k := 2 * n + 3) (d := d_11) rfl rfl Z.F_11 sc_11 rfl rfl fun cdv A outer s H E hr => ?_
  have hu := Room.u65 hr
  have hu4 := hr.units
  have hr1 : Room (2 * n + 2) _ := hr.mono (Nat.le_succ _)
  have hN := (sc_11).nd
  obtain ⟨t_LEAST_TOP, c_LEAST_TOP⟩ := Z.c_LEAST_TOP
  obtain ⟨t_MOST_TOP, c_MOST_TOP⟩ := Z.c_MOST_TOP
  exact (rss_cons (rs_asgT (re_sl (re_var 0) ro_none (ro_some (re_int))) (rg_many (is := [1, 2, 3]) rfl (rgs_cons 1 hN (rgs_cons 2 hN (rgs_cons 3 hN (rgs_nil)))))) (rss_cons (rs_ite (rt_not (rt_chain .le .le (re_gI rfl c_LEAST_TOP ⟨_, rfl⟩) (re_var 2) (re_gI rfl c_MOST_TOP ⟨_, rfl⟩) hu)) (rss_cons (rs_ret (re_str)) (rss_nil)) (rss_nil)) (rss_cons (rs_ite (rt_not (rt_chain .le .lt (re_int) (re_var 3) (re_var 2) hu)) (rss_cons (rs_ret (re_str)) (rss_nil)) (rss_nil)) (rss_cons (rs_ite (L2.PW.pt (rt_and (rt_cmp .eq (re_var 1) (re_str) hu) (rt_and1 (rt_not (rt_nvr))))) (rss_cons (rs_ret (re_str)) (rss_nil)) (rss_nil)) (rss_cons (rs_ite (L2.PW.pt (rt_and (rt_cmp .eq (re_var 1) (re_str) hu) (rt_and1 (rt_not (rt_nvr))))) (rss_cons (rs_ret (re_str)) (rss_nil)) (rss_nil)) (rss_cons (rs_ite (L2.PW.pt (rt_and (rt_cmp .eq (re_var 1) (re_str) hu) (rt_and1 (rt_not (rt_nvr))))) (rss_cons (rs_ret (re_str)) (rss_nil)) (rss_nil)) (rss_cons (rs_ite (L2.PW.pt (rt_and (rt_cmp .eq (re_var 1) (re_str) hu) (rt_and1 (rt_not (rt_chain .le .lt (re_int) (re_ix (re_var 0) (re_int)) (re_var 2) hu))))) (rss_cons (rs_ret (re_str)) (rss_nil)) (rss_nil)) (rss_cons (rs_ret (re_non)) (rss_nil)))))))))
theorem sc_12 : FnScope ["way", "why", "signs"] ["way"] (defScope s_12) := ⟨rfl, rfl, rfl, by decide +kernel, rfl, by decide +kernel, by decide +kernel⟩
theorem ok_12 (Z : Txt K mg ev) (L : Lv P w K mg base ev pr n) : FnOk P w K mg base CX0 (2 * (n + 1) + 2) (ev.fa 12) (ev.fd 12) (nms 12) (spI (gx K ev) (evF T pr wf (n + 1)) (ioOf T 12) 12) := by
  refine fn_go (k := 2 * n + 3) (d := d_12) rfl rfl Z.F_12 sc_12 rfl rfl fun cdv A outer s H E hr => ?_
  have hu := Room.u65 hr
  have hu4 := hr.units
  have hr1 : Room (2 * n + 2) _ := hr.mono (Nat.le_succ _)
  have hN := (sc_12).nd
  obtain ⟨t_MOST_TURNS, c_MOST_TURNS⟩ := Z.c_MOST_TURNS
  exact (rss_cons (rs_ite (rt_cmp .gt (re_biB .len rfl rfl rfl Z.n_len rfl (ra_cons (re_call (L 10 _ rfl) hr1 rfl Z.m_10 Z.k_10 Z.b_10 (ra_cons (re_var 0) (ra_nil))) (ra_nil)) bt_len) (re_gI rfl c_MOST_TURNS ⟨_, rfl⟩) hu) (rss_cons (rs_never) (rss_nil)) (rss_nil)) (rss_cons (rs_asg 1 hN (re_call (L 11 _ rfl) hr1 rfl Z.m_11 Z.k_11 Z.b_11 (ra_cons (re_call (L 9 _ rfl) hr1 rfl Z.m_9 Z.k_9 Z.b_9 (ra_cons (re_var 0) (ra_nil))) (ra_nil)))) (rss_cons (rs_ite (rt_notN (re_var 1)) (rss_cons (rs_never) (rss_nil)) (rss_nil)) (rss_cons (rs_for PassesOwn.never rfl (ri_of (re_call (L 10 _ rfl) hr1 rfl Z.m_10 Z.k_10 Z.b_10 (ra_cons (re_var 0) (ra_nil)))) (rg_one 2 hN) (rss_cons (rs_ite (rt_cmp .ne (re_biB .sorted rfl rfl rfl Z.n_sorted rfl (ra_cons (re_var 2) (ra_nil)) bt_sorted) (re_listRange rfl rfl Z.n_list rfl Z.n_range (re_ix (re_call (L 9 _ rfl) hr1 rfl Z.m_9 Z.k_9 Z.b_9 (ra_cons (re_var 0) (ra_nil))) (re_int))) hu) (rss_cons (rs_never) (rss_nil)) (rss_nil)) (rss_nil))) (rss_nil)))))
theorem sc_13 : FnScope ["self", "way", "inner", "signs", "sign", "codes"] ["self", "way"] (defScope s_13) := ⟨rfl, rfl, rfl, by decide +kernel, rfl, by decide +kernel, by decide +kernel⟩
theorem ok_13 (Z : Txt K mg ev) (L : Lv P w K mg base ev pr n) : FnOk P w K mg base CX0 (2 * (n + 1) + 2) (ev.fa 13) (ev.fd 13) (nms 13) (spI (gx K ev) (evF T pr wf (n + 1)) (ioOf T 13) 13) := by
  refine fn_go (k := 2 * n + 3) (d := d_13) rfl rfl Z.F_13 sc_13 rfl rfl fun cdv A outer s H E hr => ?_
  have hu := Room.u65 hr
  have hu4 := hr.units
  have hr1 : Room (2 * n + 2) _ := hr.mono (Nat.le_succ _)
  have hN := (sc_13).nd
  exact (rss_cons (rs_ex (re_call (L 12 _ rfl) hr1 rfl Z.m_12 Z.k_12 Z.b_12 (ra_cons (re_var 1) (ra_nil)))) (rss_cons (rs_asg 2 hN (re_call (L 9 _ rfl) hr1 rfl Z.m_9 Z.k_9 Z.b_9 (ra_cons (re_var 1) (ra_nil)))) (rss_cons (rs_setfld (ci := 0) (f := 0) 0 (re_ix (re_var 2) (re_int)) Z.cl0 Z.na0_kind rfl) (rss_cons (rs_setfld (ci := 0) (f := 1) 0 (re_ix (re_var 2) (re_int)) Z.cl0 Z.na0_top rfl) (rss_cons (rs_setfld (ci := 0) (f := 2) 0 (re_ix (re_var 2) (re_int)) Z.cl0 Z.na0_end rfl) (rss_cons (rs_setfld (ci := 0) (f := 3) 0 (re_ife (rt_cmp .eq (re_fld (ci := 0) (f := 0) (re_var 0) Z.cl0 Z.na0_kind rfl) (re_str) hu) (re_ix (re_var 2) (re_int)) (re_int)) Z.cl0 Z.na0_limit rfl) (rss_cons (rs_setfld (ci := 0) (f := 4) 0 (re_listRange rfl rfl Z.n_list rfl Z.n_range (re_fld (ci := 0) (f := 1) (re_var 0) Z.cl0 Z.na0_top rfl)) Z.cl0 Z.na0_signs rfl) (rss_cons (rs_for PassesOwn.never rfl (ri_of (re_call (L 10 _ rfl) hr1 rfl Z.m_10 Z.k_10 Z.b_10 (ra_cons (re_var 1) (ra_nil)))) (rg_one 3 hN) (rss_cons (rs_setfld (ci := 0) (f := 4) 0 (re_lc [("sign", 4)] rfl hN (ri_of (re_fld (ci := 0) (f := 4) (re_var 0) Z.cl0 Z.na0_signs rfl)) (show blkC ["self", "way", "inner", "signs", "sign", "codes"] (defScope s_13) _ [("sign", 4)] = true by decide +kernel) (fun _ _ _ _ _ => (rg_one 4 hN)) (fun _ _ _ _ _ => rc_none) (fun _ _ _ _ _ => (re_ix (re_var 3) (re_var 4))) (by decide)) Z.cl0 Z.na0_signs rfl) (rss_nil))) (rss_cons (rs_setfld (ci := 0) (f := 5) 0 (re_lst (ra_nil)) Z.cl0 Z.na0_codes rfl) (rss_cons (rs_ite (rt_cmp .isin (re_fld (ci := 0) (f := 0) (re_var 0) Z.cl0 Z.na0_kind rfl) (re_tup (ra_cons (re_str) (ra_cons (re_str) (ra_nil)))) hu) (rss_cons (rs_asg 5 hN (re_ife (rt_cmp .eq (re_fld (ci := 0) (f := 0) (re_var 0) Z.cl0 Z.na0_kind rfl) (re_str) hu) (re_ix (re_var 2) (re_int)) (re_nvr))) (rss_cons (rs_setfld (ci := 0) (f := 0) 0 (re_str) Z.cl0 Z.na0_kind rfl) (rss_cons (rs_setfld (ci := 0) (f := 5) 0 (re_lc [("sign", 4)] rfl hN (ri_of (re_fld (ci := 0) (f := 4) (re_var 0) Z.cl0 Z.na0_signs rfl)) (show blkC ["self", "way", "inner", "signs", "sign", "codes"] (defScope s_13) _ [("sign", 4)] = true by decide +kernel) (fun _ _ _ _ _ => (rg_one 4 hN)) (fun _ _ _ _ _ => rc_none) (fun _ _ _ _ _ => (re_ix (re_var 5) (re_var 4))) (by decide)) Z.cl0 Z.na0_codes rfl) (rss_cons (rs_setfld (ci := 0) (f := 4) 0 (re_listRange rfl rfl Z.n_list rfl Z.n_range (re_fld (ci := 0) (f := 1) (re_var 0) Z.cl0 Z.na0_top rfl)) Z.cl0 Z.na0_signs rfl) (rss_nil))))) (rss_nil)) (rss_nil)))))))))))
theorem sc_14 : FnScope ["self", "sign"] ["self"] (defScope s_14) := ⟨rfl, rfl, rfl, by decide +kernel, rfl, by decide +kernel, by decide +kernel⟩
theorem ok_14 (Z : Txt K mg ev) (L : Lv P w K mg base ev pr n) : FnOk P w K mg base CX0 (2 * (n + 1) + 2) (ev.fa 14) (ev.fd 14) (nms 14) (spI (gx K ev) (evF T pr wf (n + 1)) (ioOf T 14) 14) := by
  refine fn_go (k := 2 * n + 3) (d := d_14) rfl rfl Z.F_14 sc_14 rfl rfl fun cdv A outer s H E hr => ?_
  have hu := Room.u65 hr
  have hu4 := hr.units
  have hr1 : Room (2 * n + 2) _ := hr.mono (Nat.le_succ _)
  have hN := (sc_14).nd
  exact (rss_cons (rs_ret (re_lc [("sign", 1)] rfl hN (ri_rng1 (re_fld (ci := 0) (f := 1) (re_var 0) Z.cl0 Z.na0_top rfl) rfl Z.n_range) (show blkC ["self", "sign"] (defScope s_14) _ [("sign", 1)] = true by decide +kernel) (fun _ _ _ _ _ => (rg_one 1 hN)) (fun _ _ _ _ _ => (rc_some (rt_cmp .ne (re_var 1) (re_fld (ci := 0) (f := 2) (re_var 0) Z.cl0 Z.na0_end rfl) hu))) (fun _ _ _ _ _ => (re_var 1)) (by decide))) (rss_nil))
theorem sc_15 : FnScope ["self", "row", "sign"] ["self", "row"] (defScope s_15) := ⟨rfl, rfl, rfl, by decide +kernel, rfl, by decide +kernel, by decide +kernel⟩
theorem ok_15 (Z : Txt K mg ev) (L : Lv P w K mg base ev pr n) : FnOk P w K mg base CX0 (2 * (n + 1) + 2) (ev.fa 15) (ev.fd 15) (nms 15) (spI (gx K ev) (evF T pr wf (n + 1)) (ioOf T 15) 15) := by
  refine fn_go (k := 2 * n + 3) (d := d_15) rfl rfl Z.F_15 sc_15 rfl rfl fun cdv A outer s H E hr => ?_
  have hu := Room.u65 hr
  have hu4 := hr.units
  have hr1 : Room (2 * n + 2) _ := hr.mono (Nat.le_succ _)
  have hN := (sc_15).nd
  exact (rss_cons (rs_ret (re_lc [("sign", 2)] rfl hN (ri_of (re_var 1)) (show blkC ["self", "row", "sign"] (defScope s_15) _ [("sign", 2)] = true by decide +kernel) (fun _ _ _ _ _ => (rg_one 2 hN)) (fun _ _ _ _ _ => rc_none) (fun _ _ _ _ _ => (re_ix (re_fld (ci := 0) (f := 4) (re_var 0) Z.cl0 Z.na0_signs rfl) (re_var 2))) (by decide))) (rss_nil))
theorem sc_16 : FnScope ["self", "row", "sign"] ["self", "row"] (defScope s_16) := ⟨rfl, rfl, rfl, by decide +kernel, rfl, by decide +kernel, by decide +kernel⟩
theorem ok_16 (Z : Txt K mg ev) (L : Lv P w K mg base ev pr n) : FnOk P w K mg base CX0 (2 * (n + 1) + 2) (ev.fa 16) (ev.fd 16) (nms 16) (spI (gx K ev) (evF T pr wf (n + 1)) (ioOf T 16) 16) := by
  refine fn_go (k := 2 * n + 3) (d := d_16) rfl rfl Z.F_16 sc_16 rfl rfl fun cdv A outer s H E hr => ?_
  have hu := Room.u65 hr
  have hu4 := hr.units
  have hr1 : Room (2 * n + 2) _ := hr.mono (Nat.le_succ _)
  have hN := (sc_16).nd
  exact (rss_cons (rs_ret (re_lc [("sign", 2)] rfl hN (ri_of (re_var 1)) (show blkC ["self", "row", "sign"] (defScope s_16) _ [("sign", 2)] = true by decide +kernel) (fun _ _ _ _ _ => (rg_one 2 hN)) (fun _ _ _ _ _ => rc_none) (fun _ _ _ _ _ => (re_bm .index PySem.F.slot_list_index PySem.F.type_list_index hu4 (re_fld (ci := 0) (f := 4) (re_var 0) Z.cl0 Z.na0_signs rfl) (ra_cons (re_var 2) (ra_nil)))) (by decide))) (rss_nil))
theorem sc_17 : FnScope ["plan", "signs", "many", "at", "sign"] ["plan", "signs", "many"] (defScope s_17) := ⟨rfl, rfl, rfl, by decide +kernel, rfl, by decide +kernel, by decide +kernel⟩
theorem ok_17 (Z : Txt K mg ev) (L : Lv P w K mg base ev pr n) : FnOk P w K mg base CX0 (2 * (n + 1) + 2) (ev.fa 17) (ev.fd 17) (nms 17) (spI (gx K ev) (evF T pr wf (n + 1)) (ioOf T 17) 17) := by
  refine fn_go (k := 2 * n + 3) (d := d_17) rfl rfl Z.F_17 sc_17 rfl rfl fun cdv A outer s H E hr => ?_
  have hu := Room.u65 hr
  have hu4 := hr.units
  have hr1 : Room (2 * n + 2) _ := hr.mono (Nat.le_succ _)
  have hN := (sc_17).nd
  exact (rss_cons (rs_ite (rt_cmp .gt (re_biB .len rfl rfl rfl Z.n_len rfl (ra_cons (re_var 1) (ra_nil)) bt_len) (re_var 2) hu) (rss_cons (rs_ret (re_var 2)) (rss_nil)) (rss_nil)) (rss_cons (rs_for PassesOwn.never rfl (ri_enum (re_var 1) rfl Z.n_enumerate) (rg_many (is := [3, 4]) rfl (rgs_cons 3 hN (rgs_cons 4 hN (rgs_nil)))) (rss_cons (rs_ite (rt_not (rt_chain .le .lt (re_int) (re_var 4) (re_fld (ci := 0) (f := 1) (re_var 0) Z.cl0 Z.na0_top rfl) hu)) (rss_cons (rs_ret (re_var 3)) (rss_nil)) (rss_nil)) (rss_nil))) (rss_cons (rs_ret (re_non)) (rss_nil))))
theorem sc_18 : FnScope ["plan", "body", "found", "sign", "row", "plain", "at"] ["plan", "body"] (defScope s_18) := ⟨rfl, rfl, rfl, by decide +kernel, rfl, by decide +kernel, by decide +kernel⟩
theorem ok_18 (Z : Txt K mg ev) (L : Lv P w K mg base ev pr n) : FnOk P w K mg base CX0 (2 * (n + 1) + 2) (ev.fa 18) (ev.fd 18) (nms 18) (spI (gx K ev) (evF T pr wf (n + 1)) (ioOf T 18) 18) := by
  refine fn_go (k := 2 * n + 3) (d := d_18) rfl rfl Z.F_18 sc_18 rfl rfl fun cdv A outer s H E hr => ?_
  have hu := Room.u65 hr
  have hu4 := hr.units
  have hr1 : Room (2 * n + 2) _ := hr.mono (Nat.le_succ _)
  have hN := (sc_18).nd
  exact (rss_cons (rs_ite (rt_cmp .eq (re_fld (ci := 0) (f := 0) (re_var 0) Z.cl0 Z.na0_kind rfl) (re_str) hu) (rss_cons (rs_asg 2 hN (re_lst (ra_nil))) (rss_cons (rs_for PassesOwn.never rfl (ri_of (re_var 1)) (rg_one 3 hN) (rss_cons (rs_ex (re_bm .extend PySem.F.slot_list_extend PySem.F.type_list_extend hu4 (re_var 2) (ra_cons (re_ix (re_fld (ci := 0) (f := 5) (re_var 0) Z.cl0 Z.na0_codes rfl) (re_var 3)) (ra_nil)))) (rss_nil))) (rss_cons (rs_ret (re_var 2)) (rss_nil)))) (rss_nil)) (rss_cons (rs_asg 4 hN (re_meth (ci := 0) (mi := 7) rfl (re_var 0) Z.cl0 Z.mt0_exchanged (L 15 _ rfl) hr1 Z.b_15 (ra_cons (re_var 1) (ra_nil)))) (rss_cons (rs_ite (rt_cmp .eq (re_fld (ci := 0) (f := 0) (re_var 0) Z.cl0 Z.na0_kind rfl) (re_str) hu) (rss_cons (rs_ret (re_nvr)) (rss_nil)) (rss_nil)) (rss_cons (rs_asg 5 hN (re_meth0 (ci := 0) (mi := 6) rfl (re_var 0) Z.cl0 Z.mt0_plain (L 14 _ rfl) hr1 Z.b_14)) (rss_cons (rs_ret (re_lc [("at", 6)] rfl hN (ri_of (re_call (L 8 _ rfl) hr1 rfl Z.m_8 Z.k_8 Z.b_8 (ra_cons (re_call (L 7 _ rfl) hr1 rfl Z.m_7 Z.k_7 Z.b_7 (ra_cons (re_var 4) (ra_cons (re_fld (ci := 0) (f := 1) (re_var 0) Z.cl0 Z.na0_top rfl) (ra_nil)))) (ra_cons (re_bin .sub (re_fld (ci := 0) (f := 1) (re_var 0) Z.cl0 Z.na0_top rfl) (re_int)) (ra_nil))))) (show blkC ["plan", "body", "found", "sign", "row", "plain", "at"] (defScope s_18) _ [("at", 6)] = true by decide +kernel) (fun _ _ _ _ _ => (rg_one 6 hN)) (fun _ _ _ _ _ => rc_none) (fun _ _ _ _ _ => (re_ix (re_var 5) (re_var 6))) (by decide))) (rss_nil))))))
theorem sc_19 : FnScope ["way", "body", "plan", "at"] ["way", "body"] (defScope s_19) := ⟨rfl, rfl, rfl, by decide +kernel, rfl, by decide +kernel, by decide +kernel⟩
theorem ok_19 (Z : Txt K mg ev) (L : Lv P w K mg base ev pr n) : FnOk P w K mg base CX0 (2 * (n + 1) + 2) (ev.fa 19) (ev.fd 19) (nms 19) (spI (gx K ev) (evF T pr wf (n + 1)) (ioOf T 19) 19) := by
  refine fn_go (k := 2 * n + 3) (d := d_19) rfl rfl Z.F_19 sc_19 rfl rfl fun cdv A outer s H E hr => ?_
  have hu := Room.u65 hr
  have hu4 := hr.units
  have hr1 : Room (2 * n + 2) _ := hr.mono (Nat.le_succ _)
  have hN := (sc_19).nd
  obtain ⟨t_MOST_BODY, c_MOST_BODY⟩ := Z.c_MOST_BODY
  exact (rss_cons (rs_asg 2 hN (re_make (ci := 0) Z.mk0 (L 13 _ rfl) hr rfl Z.mc0 Z.b_13 (ra_cons (re_var 0) (ra_nil)))) (rss_cons (rs_asg 3 hN (re_call (L 17 _ rfl) hr1 rfl Z.m_17 Z.k_17 Z.b_17 (ra_cons (re_var 2) (ra_cons (re_var 1) (ra_cons (re_gI rfl c_MOST_BODY ⟨_, rfl⟩) (ra_nil)))))) (rss_cons (rs_ite (rt_notN (re_var 3)) (rss_cons (rs_never) (rss_nil)) (rss_nil)) (rss_cons (rs_ret (re_bin .add (re_call (L 18 _ rfl) hr1 rfl Z.m_18 Z.k_18 Z.b_18 (ra_cons (re_var 2) (ra_cons (re_var 1) (ra_nil)))) (re_lst (ra_cons (re_fld (ci := 0) (f := 2) (re_var 2) Z.cl0 Z.na0_end rfl) (ra_nil))))) (rss_nil)))))
theorem sc_20 : FnScope ["plan"] ["plan"] (defScope s_20) := ⟨rfl, rfl, rfl, by decide +kernel, rfl, by decide +kernel, by decide +kernel⟩
theorem ok_20 (Z : Txt K mg ev) (L : Lv P w K mg base ev pr n) : FnOk P w K mg base CX0 (2 * (n + 1) + 2) (ev.fa 20) (ev.fd 20) (nms 20) (spI (gx K ev) (evF T pr wf (n + 1)) (ioOf T 20) 20) := by
  refine fn_go (k := 2 * n + 3) (d := d_20) rfl rfl Z.F_20 sc_20 rfl rfl fun cdv A outer s H E hr => ?_
  have hu := Room.u65 hr
  have hu4 := hr.units
  have hr1 : Room (2 * n + 2) _ := hr.mono (Nat.le_succ _)
  have hN := (sc_20).nd
  exact (rss_cons (rs_ite (rt_cmp .eq (re_fld (ci := 0) (f := 0) (re_var 0) Z.cl0 Z.na0_kind rfl) (re_str) hu) (rss_cons (rs_ret (re_tup (ra_cons (re_int) (ra_cons (re_str) (ra_cons (re_bl) (ra_nil)))))) (rss_nil)) (rss_nil)) (rss_cons (rs_ret (re_tup (ra_nil))) (rss_nil)))
theorem sc_21 : FnScope ["plan", "state", "sign"] ["plan", "state", "sign"] (defScope s_21) := ⟨rfl, rfl, rfl, by decide +kernel, rfl, by decide +kernel, by decide +kernel⟩
theorem ok_21 (Z : Txt K mg ev) (L : Lv P w K mg base ev pr n) : FnOk P w K mg base CX0 (2 * (n + 1) + 2) (ev.fa 21) (ev.fd 21) (nms 21) (spI (gx K ev) (evF T pr wf (n + 1)) (ioOf T 21) 21) := by
  refine fn_go (k := 2 * n + 3) (d := d_21) rfl rfl Z.F_21 sc_21 rfl rfl fun cdv A outer s H E hr => ?_
  have hu := Room.u65 hr
  have hu4 := hr.units
  have hr1 : Room (2 * n + 2) _ := hr.mono (Nat.le_succ _)
  have hN := (sc_21).nd
  exact (rss_cons (rs_ite (rt_cmp .eq (re_fld (ci := 0) (f := 0) (re_var 0) Z.cl0 Z.na0_kind rfl) (re_str) hu) (rss_cons (rs_ret (re_nvr)) (rss_nil)) (rss_nil)) (rss_cons (rs_ite (rt_cmp .eq (re_fld (ci := 0) (f := 0) (re_var 0) Z.cl0 Z.na0_kind rfl) (re_str) hu) (rss_cons (rs_ret (re_nvr)) (rss_nil)) (rss_nil)) (rss_cons (rs_ret (re_tup (ra_cons (re_bin .add (re_var 1) (re_tup (ra_cons (re_var 2) (ra_nil)))) (ra_cons (re_lst (ra_nil)) (ra_nil))))) (rss_nil))))
theorem sc_22 : FnScope ["plan", "state", "left", "sort", "bare", "plain", "number", "sign"] ["plan", "state"] (defScope s_22) := ⟨rfl, rfl, rfl, by decide +kernel, rfl, by decide +kernel, by decide +kernel⟩
theorem ok_22 (Z : Txt K mg ev) (L : Lv P w K mg base ev pr n) : FnOk P w K mg base CX0 (2 * (n + 1) + 2) (ev.fa 22) (ev.fd 22) (nms 22) (spI (gx K ev) (evF T pr wf (n + 1)) (ioOf T 22) 22) := by
  refine fn_go (k := 2 * n + 3) (d := d_22) rfl rfl Z.F_22 sc_22 rfl rfl fun cdv A outer s H E hr => ?_
  have hu := Room.u65 hr
  have hu4 := hr.units
  have hr1 : Room (2 * n + 2) _ := hr.mono (Nat.le_succ _)
  have hN := (sc_22).nd
  exact (rss_cons (rs_ite (rt_cmp .eq (re_fld (ci := 0) (f := 0) (re_var 0) Z.cl0 Z.na0_kind rfl) (re_str) hu) (rss_cons (rs_ret (re_ife (rt_cmp .eq (re_var 1) (re_tup (ra_nil)) hu) (re_lst (ra_nil)) (re_non))) (rss_nil)) (rss_nil)) (rss_cons (rs_ite (rt_cmp .eq (re_fld (ci := 0) (f := 0) (re_var 0) Z.cl0 Z.na0_kind rfl) (re_str) hu) (rss_cons (rs_asgT (re_var 1) (rg_many (is := [2, 3, 4]) rfl (rgs_cons 2 hN (rgs_cons 3 hN (rgs_cons 4 hN (rgs_nil)))))) (rss_cons (rs_ret (re_ife (L2.PW.pt (rt_and (rt_cmp .eq (re_var 2) (re_int) hu) (rt_and (rt_cmp .ne (re_var 3) (re_str) hu) (rt_and1 (rt_not (rt_val (re_var 4))))))) (re_lst (ra_nil)) (re_non))) (rss_nil))) (rss_nil)) (rss_cons (rs_asg 5 hN (re_meth0 (ci := 0) (mi := 6) rfl (re_var 0) Z.cl0 Z.mt0_plain (L 14 _ rfl) hr1 Z.b_14)) (rss_cons (rs_asg 6 hN (re_call (L 7 _ rfl) hr1 rfl Z.m_7 Z.k_7 Z.b_7 (ra_cons (re_lc [("sign", 7)] rfl hN (ri_of (re_var 1)) (show blkC ["plan", "state", "left", "sort", "bare", "plain", "number", "sign"] (defScope s_22) _ [("sign", 7)] = true by decide +kernel) (fun _ _ _ _ _ => (rg_one 7 hN)) (fun _ _ _ _ _ => rc_none) (fun _ _ _ _ _ => (re_bm .index PySem.F.slot_list_index PySem.F.type_list_index hu4 (re_var 5) (ra_cons (re_var 7) (ra_nil)))) (by decide)) (ra_cons (re_bin .sub (re_fld (ci := 0) (f := 1) (re_var 0) Z.cl0 Z.na0_top rfl) (re_int)) (ra_nil))))) (rss_cons (rs_ret (re_meth (ci := 0) (mi := 8) rfl (re_var 0) Z.cl0 Z.mt0_back (L 16 _ rfl) hr1 Z.b_16 (ra_cons (re_call (L 8 _ rfl) hr1 rfl Z.m_8 Z.k_8 Z.b_8 (ra_cons (re_var 6) (ra_cons (re_fld (ci := 0) (f := 1) (re_var 0) Z.cl0 Z.na0_top rfl) (ra_nil)))) (ra_nil)))) (rss_nil))))))
theorem sc_23 : FnScope ["plan", "row", "state", "body", "sign", "told", "more"] ["plan", "row"] (defScope s_23) := ⟨rfl, rfl, rfl, by decide +kernel, rfl, by decide +kernel, by decide +kernel⟩
theorem ok_23 (Z : Txt K mg ev) (L : Lv P w K mg base ev pr n) : FnOk P w K mg base CX0 (2 * (n + 1) + 2) (ev.fa 23) (ev.fd 23) (nms 23) (spI (gx K ev) (evF T pr wf (n + 1)) (ioOf T 23) 23) := by
  refine fn_go (k := 2 * n + 3) (d := d_23) rfl rfl Z.F_23 sc_23 rfl rfl fun cdv A outer s H E hr => ?_
  have hu := Room.u65 hr
  have hu4 := hr.units
  have hr1 : Room (2 * n + 2) _ := hr.mono (Nat.le_succ _)
  have hN := (sc_23).nd
  obtain ⟨t_MOST_BODY, c_MOST_BODY⟩ := Z.c_MOST_BODY
  exact (rss_cons (rs_asg 2 hN (re_call (L 20 _ rfl) hr1 rfl Z.m_20 Z.k_20 Z.b_20 (ra_cons (re_var 0) (ra_nil)))) (rss_cons (rs_asg 3 hN (re_lst (ra_nil))) (rss_cons (rs_for PassesOwn.never rfl (ri_of (re_var 1)) (rg_one 4 hN) (rss_cons (rs_asg 5 hN (re_call (L 21 _ rfl) hr1 rfl Z.m_21 Z.k_21 Z.b_21 (ra_cons (re_var 0) (ra_cons (re_var 2) (ra_cons (re_var 4) (ra_nil)))))) (rss_cons (rs_ite (rt_isN (re_var 5)) (rss_cons (rs_ret (re_non)) (rss_nil)) (rss_nil)) (rss_cons (rs_asg 2 hN (re_ix (re_var 5) (re_int))) (rss_cons (rs_ex (re_bm .extend PySem.F.slot_list_extend PySem.F.type_list_extend hu4 (re_var 3) (ra_cons (re_ix (re_var 5) (re_int)) (ra_nil)))) (rss_nil)))))) (rss_cons (rs_asg 6 hN (re_call (L 22 _ rfl) hr1 rfl Z.m_22 Z.k_22 Z.b_22 (ra_cons (re_var 0) (ra_cons (re_var 2) (ra_nil))))) (rss_cons (rs_ite (L2.PW.pt (rt_or (rt_isN (re_var 6)) (rt_or1 (rt_cmp .gt (re_bin .add (re_biB .len rfl rfl rfl Z.n_len rfl (ra_cons (re_var 3) (ra_nil)) bt_len) (re_biB .len rfl rfl rfl Z.n_len rfl (ra_cons (re_var 6) (ra_nil)) bt_len)) (re_gI rfl c_MOST_BODY ⟨_, rfl⟩) hu)))) (rss_cons (rs_ret (re_non)) (rss_nil)) (rss_nil)) (rss_cons (rs_ret (re_bin .add (re_var 3) (re_var 6))) (rss_nil)))))))
theorem sc_24 : FnScope ["way", "signs", "plan", "at"] ["way", "signs"] (defScope s_24) := ⟨rfl, rfl, rfl, by decide +kernel, rfl, by decide +kernel, by decide +kernel⟩
theorem ok_24 (Z : Txt K mg ev) (L : Lv P w K mg base ev pr n) : FnOk P w K mg base CX0 (2 * (n + 1) + 2) (ev.fa 24) (ev.fd 24) (nms 24) (spI (gx K ev) (evF T pr wf (n + 1)) (ioOf T 24) 24) := by
  refine fn_go (k := 2 * n + 3) (d := d_24) rfl rfl Z.F_24 sc_24 rfl rfl fun cdv A outer s H E hr => ?_
  have hu := Room.u65 hr
  have hu4 := hr.units
  have hr1 : Room (2 * n + 2) _ := hr.mono (Nat.le_succ _)
  have hN := (sc_24).nd
  obtain ⟨t_MOST_SIGNS, c_MOST_SIGNS⟩ := Z.c_MOST_SIGNS
  exact (rss_cons (rs_asg 2 hN (re_make (ci := 0) Z.mk0 (L 13 _ rfl) hr rfl Z.mc0 Z.b_13 (ra_cons (re_var 0) (ra_nil)))) (rss_cons (rs_asg 3 hN (re_call (L 17 _ rfl) hr1 rfl Z.m_17 Z.k_17 Z.b_17 (ra_cons (re_var 2) (ra_cons (re_var 1) (ra_cons (re_gI rfl c_MOST_SIGNS ⟨_, rfl⟩) (ra_nil)))))) (rss_cons (rs_ite (rt_notN (re_var 3)) (rss_cons (rs_never) (rss_nil)) (rss_nil)) (rss_cons (rs_ite (L2.PW.pt (rt_or (rt_cmp .notin (re_fld (ci := 0) (f := 2) (re_var 2) Z.cl0 Z.na0_end rfl) (re_var 1) hu) (rt_or1 (rt_cmp .lt (re_bm .index PySem.F.slot_list_index PySem.F.type_list_index hu4 (re_var 1) (ra_cons (re_fld (ci := 0) (f := 2) (re_var 2) Z.cl0 Z.na0_end rfl) (ra_nil))) (re_bin .sub (re_biB .len rfl rfl rfl Z.n_len rfl (ra_cons (re_var 1) (ra_nil)) bt_len) (re_int)) hu)))) (rss_cons (rs_ret (re_non)) (rss_nil)) (rss_nil)) (rss_cons (rs_ret (re_call (L 23 _ rfl) hr1 rfl Z.m_23 Z.k_23 Z.b_23 (ra_cons (re_var 2) (ra_cons (re_sl (re_var 1) ro_none (ro_some (re_neg (re_int)))) (ra_nil))))) (rss_nil))))))
theorem sc_25 : FnScope ["_law_script", "_law_d", "_law_top", "_law_end", "_law_way", "_law_plain_here", "_law_known", "_law_turn", "_law_body_here", "_law_number_here", "_law_frame", "_law_found", "_law_sign", "_law_size_here", "_law_many", "_law_other", "_law_there"] ["_law_script"] (defScope s_25) := ⟨rfl, rfl, rfl, by decide +kernel, rfl, by decide +kernel, by decide +kernel⟩
theorem ok_25 (Z : Txt K mg ev) (L : Lv P w K mg base ev pr n) : FnOk P w K mg base CX0 (2 * (n + 1) + 2) (ev.fa 25) (ev.fd 25) (nms 25) (spI (gx K ev) (evF T pr wf (n + 1)) (ioOf T 25) 25) := by
  refine fn_go (k := 2 * n + 3) (d := d_25) rfl rfl Z.F_25 sc_25 rfl rfl fun cdv A outer s H E hr => ?_
  have hu := Room.u65 hr
  have hu4 := hr.units
  have hr1 : Room (2 * n + 2) _ := hr.mono (Nat.le_succ _)
  have hN := (sc_25).nd
  exact (rss_cons (rs_asg 1 hN (re_call (L 0 _ rfl) hr1 rfl Z.m_0 Z.k_0 Z.b_0 (ra_cons (re_var 0) (ra_cons (re_int) (ra_nil))))) (rss_cons (rs_asg 2 hN (re_call (L 3 _ rfl) hr1 rfl Z.m_3 Z.k_3 Z.b_3 (ra_cons (re_var 1) (ra_nil)))) (rss_cons (rs_asg 3 hN (re_call (L 1 _ rfl) hr1 rfl Z.m_1 Z.k_1 Z.b_1 (ra_cons (re_var 1) (ra_cons (re_var 2) (ra_nil))))) (rss_cons (rs_asg 4 hN (re_tup (ra_cons (re_str) (ra_cons (re_var 2) (ra_cons (re_var 3) (ra_nil)))))) (rss_cons (rs_asg 5 hN (re_call (L 2 _ rfl) hr1 rfl Z.m_2 Z.k_2 Z.b_2 (ra_cons (re_var 2) (ra_cons (re_var 3) (ra_nil))))) (rss_cons (rs_asg 6 hN (re_lst (ra_nil))) (rss_cons (rs_for PassesOwn.never rfl (ri_rng1 (re_int) rfl Z.n_range) (rg_one 7 hN) (rss_cons (rs_asg 8 hN (re_call (L 4 _ rfl) hr1 rfl Z.m_4 Z.k_4 Z.b_4 (ra_cons (re_var 1) (ra_cons (re_var 2) (ra_cons (re_var 3) (ra_cons (re_ix (re_lst (ra_cons (re_int) (ra_cons (re_int) (ra_cons (re_int) (ra_nil))))) (re_call (L 1 _ rfl) hr1 rfl Z.m_1 Z.k_1 Z.b_1 (ra_cons (re_var 1) (ra_cons (re_int) (ra_nil))))) (ra_nil))))))) (rss_cons (rs_asg 9 hN (re_call (L 5 _ rfl) hr1 rfl Z.m_5 Z.k_5 Z.b_5 (ra_cons (re_var 8) (ra_cons (re_var 2) (ra_nil))))) (rss_cons (rs_ex (re_bm .append PySem.F.slot_list_append PySem.F.type_list_append hu4 (re_var 6) (ra_cons (re_tup (ra_cons (re_biB .len rfl rfl rfl Z.n_len rfl (ra_cons (re_var 8) (ra_nil)) bt_len) (ra_cons (re_var 8) (ra_nil)))) (ra_nil)))) (rss_cons (rs_ex (re_bm .append PySem.F.slot_list_append PySem.F.type_list_append hu4 (re_var 6) (ra_cons (re_tup (ra_cons (re_biB .len rfl rfl rfl Z.n_len rfl (ra_cons (re_call (L 6 _ rfl) hr1 rfl Z.m_6 Z.k_6 Z.b_6 (ra_cons (re_bin .add (re_var 9) (re_int)) (ra_cons (re_var 2) (ra_nil)))) (ra_nil)) bt_len) (ra_cons (re_call (L 6 _ rfl) hr1 rfl Z.m_6 Z.k_6 Z.b_6 (ra_cons (re_bin .add (re_var 9) (re_int)) (ra_cons (re_var 2) (ra_nil)))) (ra_nil)))) (ra_nil)))) (rss_cons (rs_asg 10 hN (re_bin .add (re_lc [("_law_sign", 12)] rfl hN (ri_of (re_var 8)) (show blkC ["_law_script", "_law_d", "_law_top", "_law_end", "_law_way", "_law_plain_here", "_law_known", "_law_turn", "_law_body_here", "_law_number_here", "_law_frame", "_law_found", "_law_sign", "_law_size_here", "_law_many", "_law_other", "_law_there"] (defScope s_25) _ [("_law_sign", 12)] = true by decide +kernel) (fun _ _ _ _ _ => (rg_one 12 hN)) (fun _ _ _ _ _ => rc_none) (fun _ _ _ _ _ => (re_ix (re_var 5) (re_call (L 1 _ rfl) hr1 rfl Z.m_1 Z.k_1 Z.b_1 (ra_cons (re_var 1) (ra_cons (re_bin .sub (re_var 2) (re_int)) (ra_nil)))))) (by decide)) (re_lst (ra_cons (re_var 3) (ra_nil))))) (rss_cons (rs_asg 11 hN (re_call (L 24 _ rfl) hr1 rfl Z.m_24 Z.k_24 Z.b_24 (ra_cons (re_var 4) (ra_cons (re_var 10) (ra_nil))))) (rss_cons (rs_ite (L2.PW.pt (rt_or (rt_isN (re_var 11)) (rt_or1 (rt_cmp .ne (re_call (L 19 _ rfl) hr1 rfl Z.m_19 Z.k_19 Z.b_19 (ra_cons (re_var 4) (ra_cons (re_var 11) (ra_nil)))) (re_var 10) hu)))) (rss_cons (rs_ret (re_bl)) (rss_nil)) (rss_nil)) (rss_nil))))))))) (rss_cons (rs_for PassesOwn.never rfl (ri_of (re_var 6)) (rg_many (is := [13, 8]) rfl (rgs_cons 13 hN (rgs_cons 8 hN (rgs_nil)))) (rss_cons (rs_asg 10 hN (re_call (L 19 _ rfl) hr1 rfl Z.m_19 Z.k_19 Z.b_19 (ra_cons (re_var 4) (ra_cons (re_var 8) (ra_nil))))) (rss_cons (rs_ite (rt_cmp .ne (re_call (L 5 _ rfl) hr1 rfl Z.m_5 Z.k_5 Z.b_5 (ra_cons (re_lc [("_law_sign", 12)] rfl hN (ri_of (re_sl (re_var 10) ro_none (ro_some (re_neg (re_int))))) (show blkC ["_law_script", "_law_d", "_law_top", "_law_end", "_law_way", "_law_plain_here", "_law_known", "_law_turn", "_law_body_here", "_law_number_here", "_law_frame", "_law_found", "_law_sign", "_law_size_here", "_law_many", "_law_other", "_law_there"] (defScope s_25) _ [("_law_sign", 12)] = true by decide +kernel) (fun _ _ _ _ _ => (rg_one 12 hN)) (fun _ _ _ _ _ => rc_none) (fun _ _ _ _ _ => (re_bm .index PySem.F.slot_list_index PySem.F.type_list_index hu4 (re_var 5) (ra_cons (re_var 12) (ra_nil)))) (by decide)) (ra_cons (re_bin .sub (re_var 2) (re_int)) (ra_nil)))) (re_call (L 5 _ rfl) hr1 rfl Z.m_5 Z.k_5 Z.b_5 (ra_cons (re_var 8) (ra_cons (re_var 2) (ra_nil)))) hu) (rss_cons (rs_ret (re_bl)) (rss_nil)) (rss_nil)) (rss_cons (rs_for PassesOwn.never rfl (ri_of (re_var 6)) (rg_many (is := [14, 15]) rfl (rgs_cons 14 hN (rgs_cons 15 hN (rgs_nil)))) (rss_cons (rs_asg 16 hN (re_call (L 19 _ rfl) hr1 rfl Z.m_19 Z.k_19 Z.b_19 (ra_cons (re_var 4) (ra_cons (re_var 15) (ra_nil))))) (rss_cons (rs_ite (rt_cmp .ne (re_cmp .lt (re_tup (ra_cons (re_var 13) (ra_cons (re_var 8) (ra_nil)))) (re_tup (ra_cons (re_var 14) (ra_cons (re_var 15) (ra_nil)))) hu) (re_cmp .lt (re_tup (ra_cons (re_biB .len rfl rfl rfl Z.n_len rfl (ra_cons (re_var 10) (ra_nil)) bt_len) (ra_cons (re_sl (re_var 10) ro_none (ro_some (re_neg (re_int)))) (ra_nil)))) (re_tup (ra_cons (re_biB .len rfl rfl rfl Z.n_len rfl (ra_cons (re_var 16) (ra_nil)) bt_len) (ra_cons (re_sl (re_var 16) ro_none (ro_some (re_neg (re_int)))) (ra_nil)))) hu) hu) (rss_cons (rs_ret (re_bl)) (rss_nil)) (rss_nil)) (rss_nil)))) (rss_nil))))) (rss_cons (rs_ret (re_bl)) (rss_nil))))))))))
end
end K15

namespace K15
open PySem L2 Pf
variable {W : Nat}
structure Dc where
  x : Int
  y : Int
  r : List Int
def Dc.l (s : Dc) : List D := .int s.x :: .int s.y :: s.r.map .int
def offA (s : Dc) : Dc := if s.y = 0 then (match s.r with
  | c :: cs => ⟨s.x, c, cs⟩
  | [] => s) else s
def offP (s : Dc) (m : Int) : Int × Dc :=
  let t := offA s
  if t.y > 0 then (t.y % m, ⟨t.x, t.y / m, t.r⟩) else let x := (t.x * 48271 + 11) % 2147483647; (x / 64 % m, ⟨x, t.y, t.r⟩)
theorem ev_off (pr : Nat → CF) (n : Nat) (s : Dc) (m : Int) (h0 : 0 < m) (h1 : m < 1073741824) : evF T pr W (n + 1) 1 [.ow false (.lst s.l), .va (.int m)] = .ok (.va (.int (offP s m).1), some (.lst (offP s m).2.l)) := by
  obtain ⟨x, y, r⟩ := s
  by_cases hy : y = 0
  · subst hy
    cases r with
    | nil =>
      simp [evF, T, d_1, b_1, Dc.l, List.findIdx?, List.findIdx?.go, bin_mulR, h0, h1, offP, offA]
    | cons c cs => 
      have h2 : (2 : Int) < (cs.length : Int) + 1 + 1 + 1 := by omega
      by_cases hc : 0 < c <;>
        simp [evF, T, d_1, b_1, Dc.l, List.findIdx?, List.findIdx?.go, bin_mulR, h0, h1, offP, offA, hc, h2]
  · by_cases hc : 0 < y <;>
      simp [evF, T, d_1, b_1, Dc.l, List.findIdx?, List.findIdx?.go, bin_mulR, h0, h1, offP, offA, hc, hy]
theorem flat_l (s : Dc) : (scs s.l).isSome = true := by simp [Dc.l]
theorem offP_range (s : Dc) (m : Int) (h : 0 < m) : 0 ≤ (offP s m).1 ∧ (offP s m).1 < m := by
  unfold offP
  dsimp only
  split
  · exact ⟨Int.emod_nonneg _ (by omega), Int.emod_lt_of_pos _ h⟩
  · exact ⟨Int.emod_nonneg _ (by omega), Int.emod_lt_of_pos _ h⟩
theorem ev_size (pr : Nat → CF) (n : Nat) (s : Dc) : ∃ t : Int, 3 ≤ t ∧ t ≤ 16 ∧ evF T pr W (n + 2) 3 [.ow false (.lst s.l)] = .ok (.va (.int t), some (.lst (offP s 8).2.l)) := by
  have hk := offP_range s 8 (by decide)
  have e := ev_off (W := W) pr n s 8 (by decide) (by decide)
  have e3 : atI s.l 0 = some (.int s.x) := atI_0 _ _
  have fin : ∀ t : Int, 3 ≤ t → t ≤ 16 → atI ([.int 3, .int 3, .int 4, .int 4, .int 5, .int (3 + s.x / 7 % 14), .int 8, .int 16] : List D) (offP s 8).1 = some (.int t) → ∃ t : Int, 3 ≤ t ∧ t ≤ 16 ∧ evF T pr W (n + 2) 3 [.ow false (.lst s.l)] = .ok (.va (.int t), some (.lst (offP s 8).2.l)) := fun t h1 h2 h3 => by
    refine ⟨t, h1, h2, ?_⟩
    rw [evF]
    simp [T, d_3, b_3, List.findIdx?, List.findIdx?.go, ioOf, d_1, e, e3, h3, sizeLine_eq, flat_l]
  have hz : (offP s 8).1 = 0 ∨ (offP s 8).1 = 1 ∨ (offP s 8).1 = 2 ∨ (offP s 8).1 = 3 ∨ (offP s 8).1 = 4 ∨ (offP s 8).1 = 5 ∨ (offP s 8).1 = 6 ∨ (offP s 8).1 = 7 := by omega
  rcases hz with z | z | z | z | z | z | z | z <;> rw [z] at fin
  · exact fin 3 (by omega) (by omega) rfl
  · exact fin 3 (by omega) (by omega) rfl
  · exact fin 4 (by omega) (by omega) rfl
  · exact fin 4 (by omega) (by omega) rfl
  · exact fin 5 (by omega) (by omega) rfl
  · exact fin (3 + s.x / 7 % 14) (by omega) (by omega) rfl
  · exact fin 8 (by omega) (by omega) rfl
  · exact fin 16 (by omega) (by omega) rfl
/-- a slot that a loop may set -/
def Fr (w : Sl) : Prop := w = .un ∨ ∃ d, w = .va d
abbrev absI (c : Int) : Int := if c < 0 then -c else c
theorem ev_dice (pr : Nat → CF) (n : Nat) (ns : List Int) (hl : ns.length ≤ 63) (k : Int) : ∃ s : Dc, evF T pr W (n + 1) 0 [.va (.scr ns), .va (.int k)] = .ok (.fr (.lst s.l), none) := by
  obtain ⟨a, w, hw, e1⟩ : ∃ (a : Int) (w : Sl), Fr w ∧ evS T (evF T pr W n) W w_0_0 [.va (.scr ns), .va (.int k), .va (.int k), .un] = .ok (.nx, [.va (.scr ns), .va (.int k), .va (.int a), w]) := by
    unfold w_0_0
    simp only [evS, evI, evE, List.getElem?_cons_zero, Rs.bind_ok, Pf.settle, Rs.of_some]
    obtain ⟨sl', e, a, w, hw, es⟩ := forLoop_inv (ns.map .int) (body := fun d sl => (giveT (.one 3) d sl).bind fun sl => evSs T (evF T pr W n) W (.cons (.asg 2 (.bin .mod (.bin .add (.bin .mul (.var 2) (.cI 31)) (.bi .abs (.cons (.var 3) .nil))) (.cI 2147483647))) .nil) sl)
      (I := fun _ sl => ∃ (a : Int) (w : Sl), Fr w ∧ sl = [.va (.scr ns), .va (.int k), .va (.int a), w]) (sl := [.va (.scr ns), .va (.int k), .va (.int k), .un]) ⟨k, .un, .inl rfl, rfl⟩ (fun i d sl hd ⟨a, w, hw, es⟩ => by
        obtain ⟨c, _, rfl⟩ := get_map_int hd
        subst es
        refine ⟨[.va (.scr ns), .va (.int k), .va (.int ((a * 31 + absI c) % 2147483647)), .va (.int c)], ?_, _, _, .inr ⟨_, rfl⟩, rfl⟩
        rcases hw with rfl | ⟨d', rfl⟩ <;> simp [bin_mulR])
    exact ⟨a, w, hw, by rw [← es]; exact e⟩
  have e2 : evE T (evF T pr W n) c_0_0 [.va (.scr ns), .va (.int k), .va (.int a), w] = .ok (.fr (.lst (ns.filterMap fun c => if 1000000000000000000 ≤ c then some (.int c) else none)), [.va (.scr ns), .va (.int k), .va (.int a), w]) := by
    refine evE_lc_pure (fun c : Int => D.int c) _ ns ?_ ?_ ?_ fun c hc => ?_
    · simp
    · rcases hw with rfl | ⟨d', rfl⟩ <;> simp
    · rw [sizeLine_eq]; omega
    · have hp : binD .pow (.int 10) (.int 18) = .ok (.va (.int (10 ^ 18))) := rfl
      refine ⟨[.va (.scr ns), .va (.int k), .va (.int a), .va (.int c)], ?_⟩
      by_cases h : (1000000000000000000 : Int) ≤ c <;> rcases hw with rfl | ⟨d', rfl⟩ <;> simp [lcW, hp, h]
  have e3 : ∃ r : List Int, (ns.filterMap fun c => if (1000000000000000000 : Int) ≤ c then some (D.int c) else none) = r.map .int ∧ r.length ≤ ns.length := by
    refine ⟨ns.filterMap fun c => if (1000000000000000000 : Int) ≤ c then some c else none, ?_, List.length_filterMap_le _ _⟩
    rw [List.map_filterMap]
    congr 1
    funext c
    by_cases h : (1000000000000000000 : Int) ≤ c
    · rw [if_pos h, if_pos h]; rfl
    · rw [if_neg h, if_neg h]; rfl
  obtain ⟨r, e3, e4⟩ := e3
  rw [e3] at e2
  refine ⟨⟨a, 0, r⟩, ?_⟩
  have hz : r.length + 1 + 1 ≤ 16777216 := by omega
  have hz2 : 2 + r.length ≤ 16777216 := by omega
  rw [evF]
  simp [T, d_0, b_0, List.findIdx?, List.findIdx?.go, e1, e2, sizeLine_eq, hz, hz2, Dc.l]
end K15

namespace K15
open PySem L2 Pf
variable {W : Nat}
/-- all ints below t -/
def rg (t : Int) : List Int := (List.range t.toNat).map fun i : Nat => (i : Int)
/-- the i-th sign that is not e -/
def sg (e i : Int) : Int := if i < e then i else i + 1
def plL (t e : Int) : List Int := (rg (t - 1)).map (sg e)
theorem rangeD_rg (t : Int) : rangeD 0 t = (rg t).map .int := by
  unfold rangeD rg
  rw [List.map_map, Int.sub_zero]
  congr 1
  funext i
  simp
theorem rg_succ (k : Nat) : rg ((k + 1 : Nat) : Int) = rg (k : Int) ++ [(k : Int)] := by
  unfold rg
  rw [Int.toNat_natCast, Int.toNat_natCast, List.range_succ, List.map_append]
  rfl
theorem mem_rg {t x : Int} : x ∈ rg t ↔ 0 ≤ x ∧ x < t := by
  unfold rg
  rw [List.mem_map]
  constructor
  · rintro ⟨i, h, rfl⟩
    have := List.mem_range.mp h
    omega
  · rintro ⟨h1, h2⟩
    exact ⟨x.toNat, List.mem_range.mpr (by omega), by omega⟩
theorem filter_rg : ∀ (k : Nat) (e : Int), 0 ≤ e → e ≤ k → (rg ((k + 1 : Nat) : Int)).filter (fun x => decide (x ≠ e)) = (rg (k : Int)).map (sg e)
  | 0, e, h0, h1 => by
    have : e = 0 := by omega
    subst this
    rfl
  | k + 1, e, h0, h1 => by
    rw [rg_succ, List.filter_append]
    by_cases q : e = (k + 1 : Nat)
    · have e1 : (rg ((k + 1 : Nat) : Int)).filter (fun x => decide (x ≠ e)) = rg ((k + 1 : Nat) : Int) := by
        rw [List.filter_eq_self]
        intro x hx
        have := mem_rg.mp hx
        simp; omega
      have e2 : (rg ((k + 1 : Nat) : Int)).map (sg e) = rg ((k + 1 : Nat) : Int) := by
        have : (rg ((k + 1 : Nat) : Int)).map (sg e) = (rg ((k + 1 : Nat) : Int)).map id := List.map_congr_left fun x hx => by
          have := mem_rg.mp hx
          unfold sg
          rw [if_pos (by omega)]; rfl
        rw [this, List.map_id]
      rw [e1, e2, q]
      simp
    · rw [filter_rg k e h0 (by omega), rg_succ k, List.map_append]
      congr 1
      have : ((k + 1 : Nat) : Int) ≠ e := fun z => q z.symm
      have h2 : sg e (k : Int) = ((k + 1 : Nat) : Int) := by
        unfold sg
        rw [if_neg (by omega)]; omega
      rw [List.map_cons, h2, List.filter_cons, if_pos (by simpa using this)]
      rfl
theorem filter_pl {t e : Int} (h0 : 0 ≤ e) (h1 : e < t) : (rg t).filter (fun x => decide (x ≠ e)) = plL t e := by
  have := filter_rg (t - 1).toNat e h0 (by omega)
  have e1 : (((t - 1).toNat + 1 : Nat) : Int) = t := by omega
  have e2 : (((t - 1).toNat : Nat) : Int) = t - 1 := by omega
  rw [e1, e2] at this
  exact this
theorem fm_filter (t e : Int) : (rg t).filterMap (fun x => if x = e then none else some (D.int x)) = ((rg t).filter (fun x => decide (x ≠ e))).map .int := by
  induction rg t with
  | nil => rfl
  | cons x xs ih =>
    rw [List.filterMap_cons, List.filter_cons]
    by_cases q : x = e
    · rw [if_pos q, if_neg (by simp [q])]; exact ih
    · rw [if_neg q, if_pos (by simp [q]), ih]; rfl
theorem rg_len (t : Int) : (rg t).length = t.toNat := by simp [rg]
theorem ev_plain (pr : Nat → CF) (n : Nat) {t e : Int} (h : 0 ≤ e) (h1 : e < t) (h2 : t ≤ 16) : evF T pr W (n + 1) 2 [.va (.int t), .va (.int e)] = .ok (.fr (.lst ((plL t e).map .int)), none) := by
  have e2 : evE T (evF T pr W n) c_2_0 [.va (.int t), .va (.int e), .un] = .ok (.fr (.lst ((rg t).filterMap fun x => if x = e then none else some (.int x))), [.va (.int t), .va (.int e), .un]) := by
    refine evE_lc_pure (fun c : Int => D.int c) _ (rg t) ?_ ?_ ?_ fun c hc => ⟨[.va (.int t), .va (.int e), .va (.int c)], ?_⟩
    · simp [rangeD_rg, show t < 2 ^ 62 by omega, show -(2 ^ 62) ≤ t by omega]
      omega
    · simp
    · rw [sizeLine_eq, rg_len]; omega
    · by_cases q : c = e <;> simp [lcW, q]
  rw [fm_filter, filter_pl h h1] at e2
  rw [evF]
  simp [T, d_2, b_2, List.findIdx?, List.findIdx?.go, e2]
/-- a plan of a way of ranks -/
def pF (t e : Int) : List (Nat × D) := [(0, .str "ranks"), (1, .int t), (2, .int e), (3, .int 0), (4, .lst ((rg t).map .int)), (5, .lst [])]
abbrev pD (t e : Int) : D := .obj 0 (pF t e)
theorem ev_pplain (pr : Nat → CF) (n : Nat) {t e : Int} (h : 0 ≤ e) (h1 : e < t) (h2 : t ≤ 16) : evF T pr W (n + 1) 14 [.va (pD t e)] = .ok (.fr (.lst ((plL t e).map .int)), none) := by
  have e2 : evE T (evF T pr W n) c_14_0 [.va (pD t e), .un] = .ok (.fr (.lst ((rg t).filterMap fun x => if x = e then none else some (.int x))), [.va (pD t e), .un]) := by
    refine evE_lc_pure (fun c : Int => D.int c) _ (rg t) ?_ ?_ ?_ fun c hc => ⟨[.va (pD t e), .va (.int c)], ?_⟩
    · simp [pF, List.lookup, rangeD_rg, show t < 2 ^ 62 by omega, show -(2 ^ 62) ≤ t by omega]
      omega
    · simp
    · rw [sizeLine_eq, rg_len]; omega
    · by_cases q : c = e <;> simp [lcW, q, pF, List.lookup]
  rw [fm_filter, filter_pl h h1] at e2
  rw [evF]
  simp [T, d_14, b_14, List.findIdx?, List.findIdx?.go, e2]
theorem take_succ {α : Type} {r : List α} {i : Nat} {d : α} (h : r[i]? = some d) : r.take (i + 1) = r.take i ++ [d] := by
  rw [List.take_add_one, h]; rfl
/-- a number is told of a row (the law's own way) -/
theorem ev_number (pr : Nat → CF) (n : Nat) {m : Int} (h1 : 2 ≤ m) (h2 : m ≤ 16) (r : List Int) : evF T pr W (n + 1) 5 [.va (.lst (r.map .int)), .va (.int m)] = .ok (.va (.int (num m r)), none) := by
  obtain ⟨f, a, l, w, hw, e1, h⟩ : ∃ (f a l : Int) (w : Sl), Fr w ∧ evS T (evF T pr W n) W w_5_0 [.va (.lst (r.map .int)), .va (.int m), .va (.int 0), .va (.int 0), .va (.int 1), .un] = .ok (.nx, [.va (.lst (r.map .int)), .va (.int m), .va (.int f), .va (.int a), .va (.int l), w]) ∧ f + a = num m r := by
    unfold w_5_0
    rw [evS]
    simp only [evI, evE, List.getElem?_cons_zero, Rs.bind_ok, Pf.settle, Rs.of_some]
    obtain ⟨sl', e, f, a, l, w, hw, es, k1, k2⟩ := forLoop_inv (r.map .int) (body := fun d sl => (giveT (.one 5) d sl).bind fun sl => evSs T (evF T pr W n) W (.cons (.asg 2 (.bin .add (.bin .mul (.var 2) (.var 1)) (.var 5))) (.cons (.asg 3 (.bin .add (.var 3) (.var 4))) (.cons (.asg 4 (.bin .mul (.var 4) (.var 1))) .nil))) sl)
      (I := fun i sl => ∃ (f a l : Int) (w : Sl), Fr w ∧ sl = [.va (.lst (r.map .int)), .va (.int m), .va (.int f), .va (.int a), .va (.int l), w] ∧ f + a = num m (r.take i) ∧ a * m + 1 = a + l) (sl := [.va (.lst (r.map .int)), .va (.int m), .va (.int 0), .va (.int 0), .va (.int 1), .un])
      ⟨0, 0, 1, .un, .inl rfl, rfl, rfl, by omega⟩ (fun i d sl hd ⟨f, a, l, w, hw, es, k1, k2⟩ => by
        obtain ⟨c, hc, rfl⟩ := get_map_int hd
        subst es
        refine ⟨[.va (.lst (r.map .int)), .va (.int m), .va (.int (f * m + c)), .va (.int (a + l)), .va (.int (l * m)), .va (.int c)], ?_, _, _, _, _, .inr ⟨_, rfl⟩, rfl, ?_, ?_⟩
        · have hm : ∀ i, binD .mul (.int i) (.int m) = .ok (.va (.int (i * m))) := fun i => bin_mulR i m ⟨by omega, by omega⟩
          rcases hw with rfl | ⟨d', rfl⟩ <;> simp [hm]
        · rw [take_succ hc, num_snoc, ← k1, Int.add_mul]; omega
        · rw [Int.add_mul]; omega)
    refine ⟨f, a, l, w, hw, by rw [← es]; exact e, ?_⟩
    rw [k1, List.length_map, List.take_length]
  rw [evF]
  simp [T, d_5, b_5, List.findIdx?, List.findIdx?.go, e1, h]
theorem ev_rn (pr : Nat → CF) (n : Nat) {m : Int} (h1 : 2 ≤ m) (h2 : m ≤ 16) (r : List Int) : evF T pr W (n + 1) 7 [.va (.lst (r.map .int)), .va (.int m)] = .ok (.va (.int (num m r)), none) := by
  obtain ⟨w, hw, e1⟩ : ∃ (w : Sl), Fr w ∧ evS T (evF T pr W n) W w_7_0 [.va (.lst (r.map .int)), .va (.int m), .va (.int 0), .un] = .ok (.nx, [.va (.lst (r.map .int)), .va (.int m), .va (.int (num m r)), w]) := by
    unfold w_7_0
    rw [evS]
    simp only [evI, evE, List.getElem?_cons_zero, Rs.bind_ok, Pf.settle, Rs.of_some]
    obtain ⟨sl', e, w, hw, es⟩ := forLoop_inv (r.map .int) (body := fun d sl => (giveT (.one 3) d sl).bind fun sl => evSs T (evF T pr W n) W (.cons (.asg 2 (.bin .add (.bin .add (.bin .mul (.var 2) (.var 1)) (.var 3)) (.cI 1))) .nil) sl)
      (I := fun i sl => ∃ (w : Sl), Fr w ∧ sl = [.va (.lst (r.map .int)), .va (.int m), .va (.int (num m (r.take i))), w]) (sl := [.va (.lst (r.map .int)), .va (.int m), .va (.int 0), .un])
      ⟨.un, .inl rfl, rfl⟩ (fun i d sl hd ⟨w, hw, es⟩ => by
        obtain ⟨c, hc, rfl⟩ := get_map_int hd
        subst es
        refine ⟨[.va (.lst (r.map .int)), .va (.int m), .va (.int (num m (r.take (i + 1)))), .va (.int c)], ?_, _, .inr ⟨_, rfl⟩, rfl⟩
        have hm : ∀ i, binD .mul (.int i) (.int m) = .ok (.va (.int (i * m))) := fun i => bin_mulR i m ⟨by omega, by omega⟩
        rw [take_succ hc, num_snoc]
        rcases hw with rfl | ⟨d', rfl⟩ <;> simp [hm])
    refine ⟨w, hw, by rw [e, es, List.length_map, List.take_length]⟩
  rw [evF]
  simp [T, d_7, b_7, List.findIdx?, List.findIdx?.go, e1]
end K15

namespace K15
open PySem L2 Pf
variable {W : Nat}
theorem snoc_cases {α : Type} (l : List α) : l = [] ∨ ∃ r d, l = r ++ [d] := by
  rcases List.eq_nil_or_concat l with h | ⟨r, d, h⟩
  · exact .inl h
  · exact .inr ⟨r, d, by rw [h, List.concat_eq_append]⟩
theorem ev_rowat (hW : 2000 ≤ W) (pr : Nat → CF) (n : Nat) {m : Int} (h1 : 2 ≤ m) (h2 : m ≤ 16) {r : List Int} (v : Vd m r) (hr : r.length ≤ 1000) : evF T pr W (n + 1) 8 [.va (.int (num m r)), .va (.int m)] = .ok (.fr (.lst (r.map .int)), none) := by
  obtain ⟨x, e1⟩ : ∃ x : Sl, evS T (evF T pr W n) W w_8_0 [.va (.int (num m r)), .va (.int m), .ow true (.lst [])] = .ok (.nx, [x, .va (.int m), .ow true (.lst (r.reverse.map .int))]) := by
    unfold w_8_0
    rw [evS]
    obtain ⟨sl', e, q, hq⟩ := whlLoop_inv (test := fun sl => evT T (evF T pr W n) (.cmp .gt (.var 0) (.cI 0)) sl) (body := fun sl => evSs T (evF T pr W n) W (.cons (.aug 0 .sub (.cI 1)) (.cons (.ex (.bm .append (.var 2) (.cons (.bin .mod (.var 0) (.var 1)) .nil))) (.cons (.asg 0 (.bin .fdiv (.var 0) (.var 1))) .nil))) sl)
      (I := fun sl => ∃ p q, r = p ++ q ∧ sl = [.va (.int (num m p)), .va (.int m), .ow true (.lst (q.reverse.map .int))])
      (μ := fun sl : Sls => match sl[2]? with | some (Sl.ow _ (OP.lst xs)) => r.length - xs.length | _ => 0)
      (Q := fun sl => ∃ x : Sl, sl = [x, .va (.int m), .ow true (.lst (r.reverse.map .int))]) (fun sl ⟨p, q, hpq, es⟩ => by
        subst es
        rcases snoc_cases p with rfl | ⟨p', d, rfl⟩
        · refine .inl ⟨[.va (.int 0), .va (.int m), .ow true (.lst (q.reverse.map .int))], by simp [numF], .va (.int 0), ?_⟩
          rw [hpq, List.nil_append]
        · have hd : 0 ≤ d ∧ d < m := v d (by rw [hpq]; simp)
          have vp : Vd m p' := fun y hy => v y (by rw [hpq]; simp [hy])
          have hn : 0 < num m (p' ++ [d]) := by
            have := num_nonneg (show (1 : Int) ≤ m by omega) vp
            have := Int.mul_nonneg this (show 0 ≤ m by omega)
            rw [num_snoc]; omega
          obtain ⟨l1, l2⟩ := num_last (show (1 : Int) ≤ m by omega) (r := p') hd
          have hl : q.length + 1 ≤ r.length := by rw [hpq, List.length_append, List.length_append]; simp only [List.length_cons, List.length_nil]; omega
          refine .inr ⟨[.va (.int (num m (p' ++ [d]))), .va (.int m), .ow true (.lst (q.reverse.map .int))], [.va (.int (num m p')), .va (.int m), .ow true (.lst ((d :: q).reverse.map .int))], by simp [hn], ?_, ⟨p', d :: q, by rw [hpq]; simp, rfl⟩, ?_⟩
          · have hz : q.length < 16777216 := by omega
            simp [l1, l2, show (0 : Int) < m by omega, show m < 1073741824 by omega, sizeLine_eq, hz]
          · simp; omega) W [.va (.int (num m r)), .va (.int m), .ow true (.lst [])] ⟨r, [], by simp, rfl⟩ (by simp; omega)
    exact ⟨q, by rw [← hq]; exact e⟩
  rw [evF]
  simp [T, d_8, b_8, List.findIdx?, List.findIdx?.go, e1, sizeLine_eq]
/-- the rows of length k -/
def pw (m : Int) : Nat → Int
  | 0 => 1
  | k + 1 => pw m k * m
theorem ahead_pw (m : Int) : ∀ k, ahead m (k + 1) = ahead m k + pw m k
  | 0 => by show (0 : Int) * m + 1 = 0 + 1; omega
  | k + 1 => by
    have := ahead_pw m k
    show ahead m (k + 1) * m + 1 = ahead m (k + 1) + pw m k * m
    have e : ahead m (k + 1) * m = ahead m k * m + pw m k * m := by rw [this, Int.add_mul]
    have e2 : ahead m (k + 1) = ahead m k * m + 1 := rfl
    omega
/-- a row's place among those of its length -/
def plc (m : Int) (r : List Int) : Int := num m r - ahead m r.length
theorem plc_snoc (m : Int) (r : List Int) (d : Int) : plc m (r ++ [d]) = plc m r * m + d := by
  unfold plc
  rw [num_snoc, List.length_append]
  show num m r * m + d + 1 - (ahead m r.length * m + 1) = _
  rw [Int.sub_mul]; omega
theorem list_w (hW : 2000 ≤ W) (pr : Nat → CF) (n : Nat) {m : Int} (h1 : 2 ≤ m) (h2 : m ≤ 16) {r : List Int} (v : Vd m r) (hr : r.length ≤ 1000) : ∃ l : Int, evS T (evF T pr W n) W w_6_1 [.va (.int (num m r)), .va (.int m), .va (.int 0), .va (.int 1), .un, .un] = .ok (.nx, [.va (.int (plc m r)), .va (.int m), .va (.int r.length), .va (.int l), .un, .un]) := by
  have b := num_between (show (1 : Int) ≤ m by omega) r v
  have hm : ∀ i, binD .mul (.int i) (.int m) = .ok (.va (.int (i * m))) := fun i => bin_mulR i m ⟨by omega, by omega⟩
  unfold w_6_1
  rw [evS]
  obtain ⟨sl', e, q, hq⟩ := whlLoop_inv (test := fun sl => evT T (evF T pr W n) (.cmp .ge (.var 0) (.var 3)) sl) (body := fun sl => evSs T (evF T pr W n) W (.cons (.asg 0 (.bin .sub (.var 0) (.var 3))) (.cons (.asg 3 (.bin .mul (.var 3) (.var 1))) (.cons (.asg 2 (.bin .add (.var 2) (.cI 1))) .nil))) sl)
    (I := fun sl => ∃ k : Nat, k ≤ r.length ∧ sl = [.va (.int (num m r - ahead m k)), .va (.int m), .va (.int k), .va (.int (pw m k)), .un, .un])
    (μ := fun sl : Sls => match sl[2]? with | some (Sl.va (D.int k)) => r.length - k.toNat | _ => 0)
    (Q := fun sl => ∃ l : Int, sl = [.va (.int (plc m r)), .va (.int m), .va (.int r.length), .va (.int l), .un, .un]) (fun sl ⟨k, hk, es⟩ => by
      subst es
      have ap := ahead_pw m k
      by_cases q : k = r.length
      · subst q
        refine .inl ⟨[.va (.int (plc m r)), .va (.int m), .va (.int r.length), .va (.int (pw m r.length)), .un, .un], ?_, _, rfl⟩
        have : ¬ pw m r.length ≤ num m r - ahead m r.length := by omega
        simp [this, plc]
      · have mo := ahead_mono (show (1 : Int) ≤ m by omega) (show k + 1 ≤ r.length by omega)
        have : pw m k ≤ num m r - ahead m k := by omega
        refine .inr ⟨[.va (.int (num m r - ahead m k)), .va (.int m), .va (.int k), .va (.int (pw m k)), .un, .un], [.va (.int (num m r - ahead m (k + 1))), .va (.int m), .va (.int (k + 1 : Nat)), .va (.int (pw m (k + 1))), .un, .un], by simp [this], ?_, ⟨k + 1, by omega, rfl⟩, ?_⟩
        · have e1 : num m r - ahead m k - pw m k = num m r - ahead m (k + 1) := by omega
          simp [hm, e1, pw]
        · simp; omega) W [.va (.int (num m r)), .va (.int m), .va (.int 0), .va (.int 1), .un, .un] ⟨0, Nat.zero_le _, by simp [ahead, pw]⟩ (by simp; omega)
  exact ⟨q, by rw [← hq]; exact e⟩
theorem eiR (pr : Nat → CF) (n : Nat) (a b l : Int) (k : Int) (hr : k < 4611686018427387904 ∧ -4611686018427387904 ≤ k) : evI T (evF T pr W n) (.rng1 (.var 2)) [.va (.int a), .va (.int b), .va (.int k), .va (.int l), .ow true (.lst []), .un] = .ok (rangeD 0 k, [.va (.int a), .va (.int b), .va (.int k), .va (.int l), .ow true (.lst []), .un]) := by
  simp [hr]
theorem list_f (pr : Nat → CF) (n : Nat) {m : Int} (h1 : 2 ≤ m) (h2 : m ≤ 16) {r : List Int} (v : Vd m r) (hr : r.length ≤ 1000) (l : Int) : ∃ (x w : Sl), evS T (evF T pr W n) W w_6_0 [.va (.int (plc m r)), .va (.int m), .va (.int r.length), .va (.int l), .ow true (.lst []), .un] = .ok (.nx, [x, .va (.int m), .va (.int r.length), .va (.int l), .ow true (.lst (r.map .int)), w]) := by
  unfold w_6_0
  rw [evS]
  have ei := eiR (W := W) pr n (plc m r) m l r.length ⟨by omega, by omega⟩
  rw [ei, Rs.bind_ok]
  obtain ⟨sl', e, p, q, w, hw, hpq, hq, es⟩ := forLoop_inv (rangeD 0 r.length) (body := fun d sl => (giveT (.one 5) d sl).bind fun sl => evSs T (evF T pr W n) W (.cons (.ex (.bm .insert (.var 4) (.cons (.cI 0) (.cons (.bin .mod (.var 0) (.var 1)) .nil)))) (.cons (.asg 0 (.bin .fdiv (.var 0) (.var 1))) .nil)) sl)
    (I := fun i sl => ∃ (p q : List Int) (w : Sl), Fr w ∧ r = p ++ q ∧ q.length = i ∧ sl = [.va (.int (plc m p)), .va (.int m), .va (.int r.length), .va (.int l), .ow true (.lst (q.map .int)), w]) (sl := [.va (.int (plc m r)), .va (.int m), .va (.int r.length), .va (.int l), .ow true (.lst []), .un])
    ⟨r, [], .un, .inl rfl, by simp, rfl, rfl⟩ (fun i d sl hd ⟨p, q, w, hw, hpq, hq, es⟩ => by
      obtain ⟨hi, hd⟩ := rangeD_get hd
      subst hd es
      have hlen : r.length = p.length + q.length := by rw [hpq, List.length_append]
      rcases snoc_cases p with rfl | ⟨p', d, rfl⟩
      · simp at hlen; omega
      · have hd : 0 ≤ d ∧ d < m := v d (by rw [hpq]; simp)
        have z1 : plc m (p' ++ [d]) % m = d := by
          rw [plc_snoc, Int.add_comm, Int.add_mul_emod_self_right, Int.emod_eq_of_lt hd.1 hd.2]
        have z2 : plc m (p' ++ [d]) / m = plc m p' := by
          rw [plc_snoc, Int.add_comm, Int.add_mul_ediv_right _ _ (by omega), Int.ediv_eq_zero_of_lt hd.1 hd.2, Int.zero_add]
        refine ⟨[.va (.int (plc m p')), .va (.int m), .va (.int r.length), .va (.int l), .ow true (.lst ((d :: q).map .int)), .va (.int (0 + (i : Nat)))], ?_, p', d :: q, _, .inr ⟨_, rfl⟩, by rw [hpq]; simp, by simp [hq], rfl⟩
        have hz : q.length < 16777216 := by omega
        rcases hw with rfl | ⟨d', rfl⟩ <;> simp [z1, z2, show (0 : Int) < m by omega, show m < 1073741824 by omega, sizeLine_eq, hz])
  have hp : p = [] := by
    have := congrArg List.length hpq
    rw [List.length_append, hq, rangeD_len] at this
    exact List.eq_nil_of_length_eq_zero (by omega)
  subst hp
  rw [List.nil_append] at hpq
  subst hpq
  exact ⟨_, _, by rw [e, es]⟩
theorem ev_list (hW : 2000 ≤ W) (pr : Nat → CF) (n : Nat) {m : Int} (h1 : 2 ≤ m) (h2 : m ≤ 16) {r : List Int} (v : Vd m r) (hr : r.length ≤ 1000) : evF T pr W (n + 1) 6 [.va (.int (num m r)), .va (.int m)] = .ok (.fr (.lst (r.map .int)), none) := by
  have b := num_between (show (1 : Int) ≤ m by omega) r v
  have hm : ∀ i, binD .mul (.int i) (.int m) = .ok (.va (.int (i * m))) := fun i => bin_mulR i m ⟨by omega, by omega⟩
  obtain ⟨l, e1⟩ := list_w hW pr n h1 h2 v hr
  obtain ⟨x, w, e2⟩ := list_f (W := W) pr n h1 h2 v hr l
  rw [evF]
  simp [T, d_6, b_6, List.findIdx?, List.findIdx?.go, e1, e2, sizeLine_eq]
end K15

namespace K15
open PySem L2 Pf
variable {W : Nat}
abbrev wD (t e : Int) : D := .tup [.str "ranks", .int t, .int e]
theorem s1 : ¬ (("ranks" : Str) = "turned") := by decide +kernel
theorem s2 : ¬ (("ranks" : Str) = "codes") := by decide +kernel
theorem s3 : ¬ (("ranks" : Str) = "escapes") := by decide +kernel
theorem s4 : ¬ (("ranks" : Str) = "counts") := by decide +kernel
theorem ev_core (hW : 2000 ≤ W) (pr : Nat → CF) (n : Nat) (t e : Int) : evF T pr W (n + 1) 9 [.va (wD t e)] = .ok (.va (wD t e), none) := by
  obtain ⟨W', rfl⟩ : ∃ W', W = W' + 1 := ⟨W - 1, by omega⟩
  rw [evF]
  simp [T, d_9, b_9, w_9_0, List.findIdx?, List.findIdx?.go, whlLoop, s1]
theorem ev_turns (hW : 2000 ≤ W) (pr : Nat → CF) (n : Nat) (t e : Int) : evF T pr W (n + 1) 10 [.va (wD t e)] = .ok (.fr (.lst []), none) := by
  obtain ⟨W', rfl⟩ : ∃ W', W = W' + 1 := ⟨W - 1, by omega⟩
  rw [evF]
  simp [T, d_10, b_10, w_10_0, List.findIdx?, List.findIdx?.go, whlLoop, s1, sizeLine_eq]
theorem cut3 (a b c : D) : cutA [a, b, c] none (some 3) = [a, b, c] := rfl
theorem ev_fault (pr : Nat → CF) (n : Nat) {t e : Int} (h1 : 3 ≤ t) (h2 : t ≤ 16) (h3 : 0 ≤ e) (h4 : e < t) : evF T pr W (n + 1) 11 [.va (wD t e)] = .ok (.va .non, none) := by
  rw [evF]
  simp [T, d_11, b_11, List.findIdx?, List.findIdx?.go, cut3, s2, s3, s4, h1, h2, h3, h4]
theorem ev_need (hW : 2000 ≤ W) (pr : Nat → CF) (n : Nat) {t e : Int} (h1 : 3 ≤ t) (h2 : t ≤ 16) (h3 : 0 ≤ e) (h4 : e < t) : evF T pr W (n + 2) 12 [.va (wD t e)] = .ok (.va .non, none) := by
  have e1 := ev_core hW pr n t e
  have e2 := ev_turns hW pr n t e
  have e3 := ev_fault (W := W) pr n h1 h2 h3 h4
  rw [evF]
  simp [T, d_12, b_12, w_12_0, List.findIdx?, List.findIdx?.go, ioOf, d_9, d_10, d_11, e1, e2, e3, forLoop]
theorem inW : inD false (.str "ranks") (.tup [.str "codes", .str "escapes"]) = .ok false := by
  simp only [inD, D.pl, D.pls, D.pys, dS, PyData.depth]
  rw [if_pos ⟨trivial, by decide, by decide⟩]
  have : (("codes" : Str) == "ranks") = false := by decide +kernel
  have : (("escapes" : Str) == "ranks") = false := by decide +kernel
  simp [PyData.eqv, *]
theorem ev_init (hW : 2000 ≤ W) (pr : Nat → CF) (n : Nat) {t e : Int} (h1 : 3 ≤ t) (h2 : t ≤ 16) (h3 : 0 ≤ e) (h4 : e < t) : evF T pr W (n + 3) 13 [.ow false (.obj 0 []), .va (wD t e)] = .ok (.va .non, some (.obj 0 [(0, .fz (.str "ranks")), (1, .fz (.int t)), (2, .fz (.int e)), (3, .fz (.int 0)), (4, .fz (.lst ((rg t).map .int))), (5, .fz (.lst []))])) := by
  have e1 := ev_core hW pr (n + 1) t e
  have e2 := ev_turns hW pr (n + 1) t e
  have e3 := ev_need hW pr n h1 h2 h3 h4
  have h5 : -4611686018427387904 ≤ t := by omega
  have h6 : t ≤ 16777216 := by omega
  rw [evF]
  simp [T, d_13, b_13, w_13_0, List.findIdx?, List.findIdx?.go, ioOf, d_9, d_10, d_12, e1, e2, e3, forLoop, s2, s4, List.lookup, inW, sizeLine_eq, h5, h6, rangeD_rg]
end K15

namespace K15
open PySem L2 Pf
variable {W : Nat}
theorem rg_get {t : Int} {i : Nat} (h : (i : Int) < t) : (rg t)[i]? = some (i : Int) := by
  unfold rg
  rw [List.getElem?_map, List.getElem?_range (by omega)]
  rfl
theorem atI_rg {t c : Int} (h0 : 0 ≤ c) (h1 : c < t) : atI ((rg t).map D.int) c = some (.int c) := by
  obtain ⟨i, rfl⟩ : ∃ i : Nat, c = i := ⟨c.toNat, by omega⟩
  rw [Pf.atI_nat, List.getElem?_map, rg_get h1]
  rfl
theorem atI_pl {t e c : Int} (h0 : 0 ≤ c) (h1 : c < t - 1) : atI ((plL t e).map D.int) c = some (.int (sg e c)) := by
  obtain ⟨i, rfl⟩ : ∃ i : Nat, c = i := ⟨c.toNat, by omega⟩
  unfold plL
  rw [Pf.atI_nat, List.getElem?_map, List.getElem?_map, rg_get h1]
  rfl
theorem sg_inj {e a b : Int} (h : sg e a = sg e b) : a = b := by
  unfold sg at h
  split at h <;> split at h <;> omega
theorem sg_lt {e a b : Int} (h : a < b) : sg e a < sg e b := by
  unfold sg
  split <;> split <;> omega
theorem rg_nodup (t : Int) : (rg t).Nodup := by
  unfold rg
  rw [List.nodup_iff_pairwise_ne, List.pairwise_map]
  exact List.Pairwise.imp (fun h => by omega) (List.nodup_iff_pairwise_ne.mp List.nodup_range)
theorem pl_nodup (t e : Int) : (plL t e).Nodup := by
  unfold plL
  rw [List.nodup_iff_pairwise_ne, List.pairwise_map]
  exact List.Pairwise.imp (fun h q => h (sg_inj q)) (List.nodup_iff_pairwise_ne.mp (rg_nodup _))
theorem place_at {ns : List Int} (nd : ns.Nodup) {i : Nat} {c : Int} (h : ns[i]? = some c) : PySem.SeqAt.dataPlace (ns.map PyData.int) (.int c) = some i := by
  unfold PySem.SeqAt.dataPlace
  obtain ⟨hi, hc⟩ := List.getElem?_eq_some_iff.mp h
  rw [List.findIdx?_eq_some_iff_getElem]
  refine ⟨by simpa using hi, ?_, fun j hj => ?_⟩
  · simp [PyData.eqv, hc]
  · have hj' : j < ns.length := by omega
    have : ns[j] ≠ c := fun q => by
      have := (List.getElem_inj nd).mp (q.trans hc.symm)
      omega
    simp [PyData.eqv, this]
theorem index_at {ns : List Int} (nd : ns.Nodup) {i : Nat} {c : Int} (h : ns[i]? = some c) : blD .index (.lst (ns.map .int)) [.int c] = .ok (.int i) := by
  show (if _ then _ else _ : Rs D) = _
  rw [if_pos ⟨rfl, pls_int ns, by simp [PyData.depth]⟩, pys_int, dI, place_at nd h]
  rfl
theorem index_rg {t c : Int} (h0 : 0 ≤ c) (h1 : c < t) : blD .index (.lst ((rg t).map .int)) [.int c] = .ok (.int c) := by
  obtain ⟨i, rfl⟩ : ∃ i : Nat, c = i := ⟨c.toNat, by omega⟩
  exact index_at (rg_nodup t) (rg_get h1)
theorem index_pl {t e c : Int} (h0 : 0 ≤ c) (h1 : c < t - 1) : blD .index (.lst ((plL t e).map .int)) [.int (sg e c)] = .ok (.int c) := by
  obtain ⟨i, rfl⟩ : ∃ i : Nat, c = i := ⟨c.toNat, by omega⟩
  refine index_at (pl_nodup t e) ?_
  unfold plL
  rw [List.getElem?_map, rg_get h1]
  rfl
theorem fm_some {α β : Type} (f : α → β) : ∀ xs : List α, xs.filterMap (fun x => some (f x)) = xs.map f
  | [] => rfl
  | x :: xs => by rw [List.filterMap_cons, List.map_cons, fm_some f xs]
theorem ev_exch (pr : Nat → CF) (n : Nat) {t e : Int} {b : List Int} (v : Vd t b) (hb : b.length ≤ 1000) : evF T pr W (n + 1) 15 [.va (pD t e), .va (.lst (b.map .int))] = .ok (.fr (.lst (b.map .int)), none) := by
  have e2 : evE T (evF T pr W n) c_15_0 [.va (pD t e), .va (.lst (b.map .int)), .un] = .ok (.fr (.lst (b.filterMap fun x => some (.int x))), [.va (pD t e), .va (.lst (b.map .int)), .un]) := by
    refine evE_lc_pure (fun c : Int => D.int c) _ b ?_ ?_ ?_ fun c hc => ⟨[.va (pD t e), .va (.lst (b.map .int)), .va (.int c)], ?_⟩
    · simp
    · simp
    · rw [sizeLine_eq]; omega
    · obtain ⟨c0, c1⟩ := v c hc
      simp [lcW, pF, List.lookup, atI_rg c0 c1]
  rw [fm_some] at e2
  rw [evF]
  simp [T, d_15, b_15, List.findIdx?, List.findIdx?.go, e2]
theorem ev_back (pr : Nat → CF) (n : Nat) {t e : Int} {b : List Int} (v : Vd t b) (hb : b.length ≤ 1000) : evF T pr W (n + 1) 16 [.va (pD t e), .va (.lst (b.map .int))] = .ok (.fr (.lst (b.map .int)), none) := by
  have e2 : evE T (evF T pr W n) c_16_0 [.va (pD t e), .va (.lst (b.map .int)), .un] = .ok (.fr (.lst (b.filterMap fun x => some (.int x))), [.va (pD t e), .va (.lst (b.map .int)), .un]) := by
    refine evE_lc_pure (fun c : Int => D.int c) _ b ?_ ?_ ?_ fun c hc => ⟨[.va (pD t e), .va (.lst (b.map .int)), .va (.int c)], ?_⟩
    · simp
    · simp
    · rw [sizeLine_eq]; omega
    · obtain ⟨c0, c1⟩ := v c hc
      simp [lcW, pF, List.lookup, index_rg c0 c1]
  rw [fm_some] at e2
  rw [evF]
  simp [T, d_16, b_16, List.findIdx?, List.findIdx?.go, e2]
theorem zip_get {r : List Int} {i : Nat} {d : D} (h : ((r.map D.int).zipIdx.map fun z => D.tup [.int z.2, z.1])[i]? = some d) : ∃ c, r[i]? = some c ∧ d = .tup [.int (i : Nat), .int c] := by
  rw [List.getElem?_map, List.getElem?_zipIdx, List.getElem?_map] at h
  cases w : r[i]? with
  | none => rw [w] at h; cases h
  | some c =>
    rw [w] at h
    refine ⟨c, rfl, ?_⟩
    have := (Option.some.inj h).symm
    simpa using this
theorem ev_needs (pr : Nat → CF) (n : Nat) {t e : Int} {b : List Int} (v : Vd t b) {k : Int} (hb : (b.length : Int) ≤ k) : evF T pr W (n + 1) 17 [.va (pD t e), .va (.lst (b.map .int)), .va (.int k)] = .ok (.va .non, none) := by
  obtain ⟨w1, w2, e1⟩ : ∃ (w1 w2 : Sl), evS T (evF T pr W n) W w_17_0 [.va (pD t e), .va (.lst (b.map .int)), .va (.int k), .un, .un] = .ok (.nx, [.va (pD t e), .va (.lst (b.map .int)), .va (.int k), w1, w2]) := by
    unfold w_17_0
    rw [evS]
    simp only [evI, evE, List.getElem?_cons_zero, List.getElem?_cons_succ, Rs.bind_ok, Pf.settle, Rs.of_some]
    obtain ⟨sl', e, w1, w2, hw1, hw2, es⟩ := forLoop_inv ((b.map D.int).zipIdx.map fun z => D.tup [.int z.2, z.1]) (body := fun d sl => (giveT (.many [3, 4]) d sl).bind fun sl => evSs T (evF T pr W n) W (.cons (.ite (.not (.chain .le .lt (.cI 0) (.var 4) (.fld (.var 0) 0 1))) (.cons (.ret (.var 3)) .nil) (.nil)) .nil) sl)
      (I := fun i sl => ∃ (w1 w2 : Sl), Fr w1 ∧ Fr w2 ∧ sl = [.va (pD t e), .va (.lst (b.map .int)), .va (.int k), w1, w2]) (sl := [.va (pD t e), .va (.lst (b.map .int)), .va (.int k), .un, .un])
      ⟨.un, .un, .inl rfl, .inl rfl, rfl⟩ (fun i d sl hd ⟨w1, w2, hw1, hw2, es⟩ => by
        obtain ⟨c, hc, rfl⟩ := zip_get hd
        obtain ⟨c0, c1⟩ := v c (List.mem_of_getElem? hc)
        subst es
        refine ⟨[.va (pD t e), .va (.lst (b.map .int)), .va (.int k), .va (.int (i : Nat)), .va (.int c)], ?_, _, _, .inr ⟨_, rfl⟩, .inr ⟨_, rfl⟩, rfl⟩
        rcases hw1 with rfl | ⟨d', rfl⟩ <;> rcases hw2 with rfl | ⟨d'', rfl⟩ <;> simp [pF, List.lookup, c0, c1])
    exact ⟨w1, w2, by rw [e, es]⟩
  have hk : ¬ k < (b.length : Int) := by omega
  rw [evF]
  simp [T, d_17, b_17, List.findIdx?, List.findIdx?.go, e1, hk]
theorem len_bound {t : Int} (h1 : 3 ≤ t) (h2 : t ≤ 16) {b r : List Int} (v : Vd t b) (hb : b.length ≤ 60) (w : Vd (t - 1) r) (e : num (t - 1) r = num t b) : r.length ≤ 300 := by
  by_cases q : r.length ≤ 300
  · exact q
  · have a1 := (num_between (show (1 : Int) ≤ t by omega) b v).2
    have a2 := (num_between (show (1 : Int) ≤ t - 1 by omega) r w).1
    have a3 := ahead_mono (show (1 : Int) ≤ t - 1 by omega) (show 300 ≤ r.length by omega)
    have a4 := ahead_base (show (1 : Int) ≤ 2 by omega) (show (2 : Int) ≤ t - 1 by omega) 300
    have a5 := ahead_mono (show (1 : Int) ≤ t by omega) (show b.length + 1 ≤ 61 by omega)
    have a6 := ahead_base (show (1 : Int) ≤ t by omega) h2 61
    have a7 : ahead 16 61 < ahead 2 300 := by decide +kernel
    omega
theorem ev_coded (hW : 2000 ≤ W) (pr : Nat → CF) (n : Nat) {t e : Int} (h1 : 3 ≤ t) (h2 : t ≤ 16) (h3 : 0 ≤ e) (h4 : e < t) {b r : List Int} (v : Vd t b) (hb : b.length ≤ 60) (w : Vd (t - 1) r) (er : num (t - 1) r = num t b) :
    evF T pr W (n + 2) 18 [.va (pD t e), .va (.lst (b.map .int))] = .ok (.fr (.lst ((r.map (sg e)).map .int)), none) := by
  have hr := len_bound h1 h2 v hb w er
  have e1 := ev_exch (W := W) pr n (e := e) v (by omega)
  have e2 := ev_pplain (W := W) pr n h3 h4 h2
  have e3 := ev_rn (W := W) pr n (show 2 ≤ t by omega) h2 b
  have e4 := ev_rowat hW pr n (show 2 ≤ t - 1 by omega) (show t - 1 ≤ 16 by omega) w (by omega)
  rw [er] at e4
  have e5 : evE T (evF T pr W (n + 1)) c_18_0 [.va (pD t e), .va (.lst (b.map .int)), .un, .un, .ow true (.lst (b.map .int)), .ow true (.lst ((plL t e).map .int)), .un] = .ok (.fr (.lst (r.filterMap fun x => some (.int (sg e x)))), [.va (pD t e), .va (.lst (b.map .int)), .un, .un, .ow true (.lst (b.map .int)), .ow true (.lst ((plL t e).map .int)), .un]) := by
    refine evE_lc_pure (fun c : Int => D.int c) _ r ?_ ?_ ?_ fun c hc => ⟨[.va (pD t e), .va (.lst (b.map .int)), .un, .un, .ow true (.lst (b.map .int)), .ow true (.lst ((plL t e).map .int)), .va (.int c)], ?_⟩
    · simp [pF, List.lookup, ioOf, T, d_7, d_8, List.findIdx?, List.findIdx?.go, e3, e4]
    · simp
    · rw [sizeLine_eq]; omega
    · obtain ⟨c0, c1⟩ := w c hc
      simp [lcW, atI_pl c0 c1]
  rw [fm_some] at e5
  rw [evF]
  simp [T, d_18, b_18, List.findIdx?, List.findIdx?.go, ioOf, d_14, d_15, pF, List.lookup, s2, s4, e1, e2, e5]
end K15

namespace K15
open PySem L2 Pf
variable {W : Nat}
theorem ev_framed (hW : 2000 ≤ W) (pr : Nat → CF) (n : Nat) {t e : Int} (h1 : 3 ≤ t) (h2 : t ≤ 16) (h3 : 0 ≤ e) (h4 : e < t) {b r : List Int} (v : Vd t b) (hb : b.length ≤ 60) (w : Vd (t - 1) r) (er : num (t - 1) r = num t b) :
    evF T pr W (n + 4) 19 [.va (wD t e), .va (.lst (b.map .int))] = .ok (.fr (.lst ((r.map (sg e) ++ [e]).map .int)), none) := by
  have hr := len_bound h1 h2 v hb w er
  have e1 := ev_init hW pr n h1 h2 h3 h4
  have e2 : evF T pr W (n + 3) 17 [.va (.obj 0 (pF t e)), .va (.lst (b.map .int)), .va (.int 60)] = .ok (.va .non, none) := ev_needs (W := W) pr (n + 2) (e := e) v (k := 60) (by omega)
  have e3 : evF T pr W (n + 3) 18 [.va (.obj 0 (pF t e)), .va (.lst (b.map .int))] = .ok (.fr (.lst ((r.map (sg e)).map .int)), none) := ev_coded hW pr (n + 1) h1 h2 h3 h4 v hb w er
  have hR : (r.map (sg e)).length = r.length := List.length_map ..
  generalize r.map (sg e) = R at hR e3 ⊢
  simp only [pF] at e2 e3
  have hz0 := hr
  have hz : R.length + 1 ≤ 16777216 := by omega
  rw [evF]
  simp [T, d_19, b_19, List.findIdx?, List.findIdx?.go, ioOf, d_13, d_17, d_18, e1, e2, e3, List.lookup, sizeLine_eq, hz]
end K15

namespace K15
open PySem L2 Pf
variable {W : Nat}
theorem ev_first (pr : Nat → CF) (n : Nat) {t e : Int} : evF T pr W (n + 1) 20 [.va (pD t e)] = .ok (.va (.tup []), none) := by
  rw [evF]
  simp [T, d_20, b_20, List.findIdx?, List.findIdx?.go, pF, List.lookup, s4, sizeLine_eq]
theorem ev_step (pr : Nat → CF) (n : Nat) {t e : Int} {st : List Int} (h : st.length ≤ 1000) (c : Int) : evF T pr W (n + 1) 21 [.va (pD t e), .va (.tup (st.map .int)), .va (.int c)] = .ok (.va (.tup [.tup ((st ++ [c]).map .int), .lst []]), none) := by
  have hz : st.length + 1 ≤ 16777216 := by omega
  rw [evF]
  simp [T, d_21, b_21, List.findIdx?, List.findIdx?.go, pF, List.lookup, s2, s4, sizeLine_eq, hz]
theorem ev_last (hW : 2000 ≤ W) (pr : Nat → CF) (n : Nat) {t e : Int} (h1 : 3 ≤ t) (h2 : t ≤ 16) (h3 : 0 ≤ e) (h4 : e < t) {r f : List Int} (w : Vd (t - 1) r) (hr : r.length ≤ 400) (v : Vd t f) (ef : num t f = num (t - 1) r) :
    evF T pr W (n + 2) 22 [.va (pD t e), .va (.tup ((r.map (sg e)).map .int))] = .ok (.fr (.lst (f.map .int)), none) := by
  have hf := len_base (show (1 : Int) ≤ t - 1 by omega) (show t - 1 ≤ t by omega) w v ef.symm
  have e2 := ev_pplain (W := W) pr n h3 h4 h2
  have e3 := ev_rn (W := W) pr n (show 2 ≤ t - 1 by omega) (show t - 1 ≤ 16 by omega) r
  have e4 := ev_rowat hW pr n (show 2 ≤ t by omega) h2 v (by omega)
  have e6 := ev_back (W := W) pr n (e := e) v (by omega)
  rw [ef] at e4
  have e5 : evE T (evF T pr W (n + 1)) c_22_0 [.va (pD t e), .va (.tup ((r.map (sg e)).map .int)), .un, .un, .un, .ow true (.lst ((plL t e).map .int)), .un, .un] = .ok (.fr (.lst (r.filterMap fun x => some (.int x))), [.va (pD t e), .va (.tup ((r.map (sg e)).map .int)), .un, .un, .un, .ow true (.lst ((plL t e).map .int)), .un, .un]) := by
    refine evE_lc_pure (fun c : Int => D.int (sg e c)) _ r ?_ ?_ ?_ fun c hc => ⟨[.va (pD t e), .va (.tup ((r.map (sg e)).map .int)), .un, .un, .un, .ow true (.lst ((plL t e).map .int)), .un, .va (.int (sg e c))], ?_⟩
    · simp
    · simp
    · rw [sizeLine_eq]; omega
    · obtain ⟨c0, c1⟩ := w c hc
      simp [lcW, index_pl c0 c1]
  rw [fm_some] at e5
  generalize r.map (sg e) = R at e5 ⊢
  rw [evF]
  simp [T, d_22, b_22, List.findIdx?, List.findIdx?.go, ioOf, d_14, d_7, d_8, d_16, pF, List.lookup, s2, s4, e2, e3, e4, e5, e6]
theorem ev_found (hW : 2000 ≤ W) (pr : Nat → CF) (n : Nat) {t e : Int} (h1 : 3 ≤ t) (h2 : t ≤ 16) (h3 : 0 ≤ e) (h4 : e < t) {r f : List Int} (w : Vd (t - 1) r) (hr : r.length ≤ 60) (v : Vd t f) (ef : num t f = num (t - 1) r) :
    evF T pr W (n + 3) 23 [.va (pD t e), .va (.lst ((r.map (sg e)).map .int))] = .ok (.fr (.lst (f.map .int)), none) := by
  have hf := len_base (show (1 : Int) ≤ t - 1 by omega) (show t - 1 ≤ t by omega) w v ef.symm
  have e1 := ev_first (W := W) pr (n + 1) (t := t) (e := e)
  have e3 : evF T pr W (n + 2) 22 [.va (pD t e), .va (.tup ((r.map (sg e)).map .int))] = .ok (.fr (.lst (f.map .int)), none) := ev_last hW pr n h1 h2 h3 h4 w (by omega) v ef
  have hR : (r.map (sg e)).length ≤ 60 := by rw [List.length_map]; exact hr
  generalize r.map (sg e) = R at hR e3 ⊢
  obtain ⟨w1, w2, e2⟩ : ∃ (w1 w2 : Sl), evS T (evF T pr W (n + 2)) W w_23_0 [.va (pD t e), .va (.lst (R.map .int)), .va (.tup []), .ow true (.lst []), .un, .un, .un] = .ok (.nx, [.va (pD t e), .va (.lst (R.map .int)), .va (.tup (R.map .int)), .ow true (.lst []), w1, w2, .un]) := by
    unfold w_23_0
    rw [evS]
    simp only [evI, evE, List.getElem?_cons_zero, List.getElem?_cons_succ, Rs.bind_ok, Pf.settle, Rs.of_some]
    obtain ⟨sl', e, w1, w2, hw1, hw2, es⟩ := forLoop_inv (R.map D.int) (body := fun d sl => (giveT (.one 4) d sl).bind fun sl => evSs T (evF T pr W (n + 2)) W (.cons (.asg 5 (.call 21 (.cons (.var 0) (.cons (.var 2) (.cons (.var 4) .nil))))) (.cons (.ite (.isN (.var 5)) (.cons (.ret (.cN)) .nil) (.nil)) (.cons (.asg 2 (.ix (.var 5) (.cI 0))) (.cons (.ex (.bm .extend (.var 3) (.cons (.ix (.var 5) (.cI 1)) .nil))) .nil)))) sl)
      (I := fun i sl => ∃ (w1 w2 : Sl), Fr w1 ∧ Fr w2 ∧ sl = [.va (pD t e), .va (.lst (R.map .int)), .va (.tup ((R.take i).map .int)), .ow true (.lst []), w1, w2, .un]) (sl := [.va (pD t e), .va (.lst (R.map .int)), .va (.tup []), .ow true (.lst []), .un, .un, .un])
      ⟨.un, .un, .inl rfl, .inl rfl, rfl⟩ (fun i d sl hd ⟨w1, w2, hw1, hw2, es⟩ => by
        obtain ⟨c, hc, rfl⟩ := get_map_int hd
        subst es
        have e9 : evF T pr W (n + 2) 21 [.va (pD t e), .va (.tup ((R.take i).map .int)), .va (.int c)] = .ok (.va (.tup [.tup ((R.take (i + 1)).map .int), .lst []]), none) := by
          rw [take_succ hc]
          exact ev_step pr (n + 1) (by rw [List.length_take]; omega) c
        refine ⟨[.va (pD t e), .va (.lst (R.map .int)), .va (.tup ((R.take (i + 1)).map .int)), .ow true (.lst []), .va (.int c), .va (.tup [.tup ((R.take (i + 1)).map .int), .lst []]), .un], ?_, _, _, .inr ⟨_, rfl⟩, .inr ⟨_, rfl⟩, rfl⟩
        generalize R.take i = R1 at e9 ⊢
        generalize R.take (i + 1) = R2 at e9 ⊢
        rcases hw1 with rfl | ⟨d', rfl⟩ <;> rcases hw2 with rfl | ⟨d'', rfl⟩ <;> simp [ioOf, T, d_21, List.findIdx?, List.findIdx?.go, e9, sizeLine_eq, nonD])
    refine ⟨w1, w2, by rw [e, es, List.length_map, List.take_length]⟩
  have hz : f.length ≤ 16777216 := by omega
  have hz2 : ¬ (60 : Int) < (f.length : Int) := by omega
  rw [evF]
  simp [T, d_23, b_23, List.findIdx?, List.findIdx?.go, ioOf, d_20, d_22, e1, e2, e3, sizeLine_eq, hz, hz2, nonD]
theorem place_first : ∀ (row : List Int) (e : Int), e ∉ row → PySem.SeqAt.dataPlace ((row ++ [e]).map PyData.int) (.int e) = some row.length := fun row e h => by
  unfold PySem.SeqAt.dataPlace
  rw [List.findIdx?_eq_some_iff_getElem]
  refine ⟨by simp, ?_, fun j hj => ?_⟩
  · simp [PyData.eqv]
  · have : row[j] ≠ e := fun q => h (by rw [← q]; exact List.getElem_mem hj)
    have e2 : (row ++ [e])[j]'(by simp; omega) = row[j] := List.getElem_append_left hj
    rw [List.getElem_map, e2]
    simp [PyData.eqv, this]
theorem index_first {row : List Int} {e : Int} (h : e ∉ row) : blD .index (.lst ((row ++ [e]).map .int)) [.int e] = .ok (.int row.length) := by
  show (if _ then _ else _ : Rs D) = _
  rw [if_pos ⟨rfl, pls_int _, by simp [PyData.depth]⟩, pys_int, dI, place_first row e h]
  rfl
theorem cut_last {α : Type} (xs : List α) (d : α) : cutA (xs ++ [d]) none (some (-1)) = xs := by
  unfold cutA HT.sIx
  have h : (-1 + ((xs.length : Int) + 1)).toNat = xs.length := by omega
  simp [h]
end K15

namespace K15
open PySem L2 Pf
variable {W : Nat}
theorem sg_range {t e c : Int} (h3 : 0 ≤ e) (h4 : e < t) (h0 : 0 ≤ c) (h1 : c < t - 1) : 0 ≤ sg e c ∧ sg e c < t ∧ sg e c ≠ e := by
  unfold sg
  split <;> omega
theorem vd_sg {t e : Int} (h3 : 0 ≤ e) (h4 : e < t) {r : List Int} (w : Vd (t - 1) r) : Vd t (r.map (sg e)) ∧ e ∉ r.map (sg e) := by
  refine ⟨fun x hx => ?_, fun hx => ?_⟩
  · obtain ⟨c, hc, rfl⟩ := List.mem_map.mp hx
    have := sg_range h3 h4 (w c hc).1 (w c hc).2
    exact ⟨this.1, this.2.1⟩
  · obtain ⟨c, hc, q⟩ := List.mem_map.mp hx
    exact (sg_range h3 h4 (w c hc).1 (w c hc).2).2.2 q
theorem ev_bodyof (hW : 2000 ≤ W) (pr : Nat → CF) (n : Nat) {t e : Int} (h1 : 3 ≤ t) (h2 : t ≤ 16) (h3 : 0 ≤ e) (h4 : e < t) {r f : List Int} (w : Vd (t - 1) r) (hr : r.length ≤ 60) (v : Vd t f) (ef : num t f = num (t - 1) r) :
    evF T pr W (n + 4) 24 [.va (wD t e), .va (.lst ((r.map (sg e) ++ [e]).map .int))] = .ok (.fr (.lst (f.map .int)), none) := by
  obtain ⟨vr, ne⟩ := vd_sg h3 h4 w
  have e1 := ev_init hW pr n h1 h2 h3 h4
  have e3 : evF T pr W (n + 3) 23 [.va (.obj 0 (pF t e)), .va (.lst ((r.map (sg e)).map .int))] = .ok (.fr (.lst (f.map .int)), none) := ev_found hW pr n h1 h2 h3 h4 w hr v ef
  have hR : (r.map (sg e)).length ≤ 60 := by rw [List.length_map]; exact hr
  generalize r.map (sg e) = R at hR e3 vr ne ⊢
  have e2 : evF T pr W (n + 3) 17 [.va (.obj 0 (pF t e)), .va (.lst ((R ++ [e]).map .int)), .va (.int 400)] = .ok (.va .non, none) := ev_needs (W := W) pr (n + 2) (e := e) (vr.app (Vd.one ⟨h3, h4⟩)) (k := 400) (by rw [List.length_append]; simp only [List.length_cons, List.length_nil]; omega)
  have e4 : inD true (.int e) (.lst ((R ++ [e]).map .int)) = .ok false := by
    rw [in_il]
    simp
  have e5 := index_first ne
  have e6 := cut_last (R.map D.int) (.int e)
  have e7 : (R ++ [e]).map D.int = R.map D.int ++ [.int e] := by simp
  have e8 : ¬ (R.length : Int) < (R.length : Int) + 1 - 1 := by omega
  rw [e7] at e2 e4 e5 ⊢
  simp only [pF] at e2 e3
  rw [evF]
  simp [T, d_24, b_24, List.findIdx?, List.findIdx?.go, ioOf, d_13, d_17, d_23, e1, e2, e3, e4, e5, e6, List.lookup, sizeLine_eq, nonD]
end K15

namespace K15
open PySem L2 Pf
variable {W : Nat}
theorem ev_body (pr : Nat → CF) (n : Nat) (s : Dc) {t e k : Int} (h1 : 3 ≤ t) (h2 : t ≤ 16) (h3 : 0 ≤ e) (h4 : e < t) (hk : 0 ≤ k) (hk2 : k ≤ 60) :
    ∃ (b : List Int) (s' : Dc), Vd t b ∧ (b.length : Int) ≤ k ∧ evF T pr W (n + 2) 4 [.ow false (.lst s.l), .va (.int t), .va (.int e), .va (.int k)] = .ok (.fr (.lst (b.map .int)), some (.lst s'.l)) := by
  have t0 : 0 < t := by omega
  have t1 : t < 1073741824 := by omega
  have off := fun (s : Dc) (m : Int) (h0 : 0 < m) (h1 : m < 1073741824) => ev_off (W := W) pr n s m h0 h1
  have o1 := off s (k + 1) (by omega) (by omega)
  have r1 := offP_range s (k + 1) (by omega)
  generalize (offP s (k + 1)).1 = z at o1 r1
  generalize (offP s (k + 1)).2 = s1 at o1
  have o2 := off s1 4 (by omega) (by omega)
  have r2 := offP_range s1 4 (by omega)
  generalize (offP s1 4).1 = kind at o2 r2
  generalize (offP s1 4).2 = s2 at o2
  have o3 := off s2 t (by omega) (by omega)
  have r3 := offP_range s2 t (by omega)
  generalize (offP s2 t).1 = one at o3 r3
  generalize (offP s2 t).2 = s3 at o3
  obtain ⟨b, s', w, hb, hl, e2⟩ : ∃ (b : List Int) (s' : Dc) (w : Sl), Vd t b ∧ b.length = z.toNat ∧ evS T (evF T pr W (n + 1)) W w_4_0 [.ow false (.lst s3.l), .va (.int t), .va (.int e), .va (.int k), .va (.int z), .va (.int kind), .va (.int one), .ow true (.lst []), .un] = .ok (.nx, [.ow false (.lst s'.l), .va (.int t), .va (.int e), .va (.int k), .va (.int z), .va (.int kind), .va (.int one), .ow true (.lst (b.map .int)), w]) := by
    unfold w_4_0
    rw [evS]
    have hz : z < 4611686018427387904 ∧ -4611686018427387904 ≤ z := by omega
    have ei : evI T (evF T pr W (n + 1)) (.rng1 (.var 4)) [.ow false (.lst s3.l), .va (.int t), .va (.int e), .va (.int k), .va (.int z), .va (.int kind), .va (.int one), .ow true (.lst []), .un] = .ok (rangeD 0 z, [.ow false (.lst s3.l), .va (.int t), .va (.int e), .va (.int k), .va (.int z), .va (.int kind), .va (.int one), .ow true (.lst []), .un]) := by
      simp [hz]
    rw [ei, Rs.bind_ok]
    obtain ⟨sl', e', s', b, w, hw, hb, hl, es⟩ := forLoop_inv (rangeD 0 z) (body := fun d sl => (giveT (.one 8) d sl).bind fun sl => evSs T (evF T pr W (n + 1)) W (.cons (.ite (.or (.cons (.cmp .eq (.var 5) (.cI 0)) (.cons (.cmp .eq (.call 1 (.cons (.var 0) (.cons (.cI 6) .nil))) (.cI 0)) .nil))) (.cons (.ex (.bm .append (.var 7) (.cons (.call 1 (.cons (.var 0) (.cons (.var 1) .nil))) .nil))) .nil) (.cons (.ex (.bm .append (.var 7) (.cons (.ix (.lst (.cons (.var 6) (.cons (.var 2) (.cons (.var 6) .nil)))) (.bin .sub (.var 5) (.cI 1))) .nil))) .nil)) .nil) sl)
      (I := fun i sl => ∃ (s : Dc) (b : List Int) (w : Sl), Fr w ∧ Vd t b ∧ b.length = i ∧ sl = [.ow false (.lst s.l), .va (.int t), .va (.int e), .va (.int k), .va (.int z), .va (.int kind), .va (.int one), .ow true (.lst (b.map .int)), w]) (sl := [.ow false (.lst s3.l), .va (.int t), .va (.int e), .va (.int k), .va (.int z), .va (.int kind), .va (.int one), .ow true (.lst []), .un])
      ⟨s3, [], .un, .inl rfl, Vd.nil, rfl, rfl⟩ (fun i d sl hd ⟨s, b, w, hw, hb, hl, es⟩ => by
        obtain ⟨hi, hd⟩ := rangeD_get hd
        subst hd es
        have hzb : b.length < 16777216 := by omega
        have p1 := off s 6 (by omega) (by omega)
        have p2 := off s t t0 t1
        have p3 := off (offP s 6).2 t t0 t1
        have q2 := offP_range s t t0
        have q3 := offP_range (offP s 6).2 t t0
        have fin : ∀ (x : Int) (s' : Dc), 0 ≤ x ∧ x < t → ∃ (s : Dc) (b' : List Int) (w : Sl), Fr w ∧ Vd t b' ∧ b'.length = i + 1 ∧ ([.ow false (.lst s'.l), .va (.int t), .va (.int e), .va (.int k), .va (.int z), .va (.int kind), .va (.int one), .ow true (.lst ((b ++ [x]).map .int)), .va (.int (0 + (i : Nat)))] : Sls) = [.ow false (.lst s.l), .va (.int t), .va (.int e), .va (.int k), .va (.int z), .va (.int kind), .va (.int one), .ow true (.lst (b'.map .int)), w] :=
          fun x s' hx => ⟨s', b ++ [x], _, .inr ⟨_, rfl⟩, hb.app (Vd.one hx), by simp [hl], rfl⟩
        by_cases c1 : kind = 0
        · subst c1
          refine ⟨_, ?_, fin (offP s t).1 (offP s t).2 q2⟩
          rcases hw with rfl | ⟨d', rfl⟩ <;> simp [ioOf, T, d_1, List.findIdx?, List.findIdx?.go, p2, flat_l, sizeLine_eq, hzb]
        · by_cases c2 : (offP s 6).1 = 0
          · refine ⟨_, ?_, fin (offP (offP s 6).2 t).1 (offP (offP s 6).2 t).2 q3⟩
            rw [c2] at p1
            rcases hw with rfl | ⟨d', rfl⟩ <;> simp [ioOf, T, d_1, List.findIdx?, List.findIdx?.go, p1, p3, flat_l, sizeLine_eq, hzb, c1]
          · have ha : ∃ x : Int, (0 ≤ x ∧ x < t) ∧ atI ([.int one, .int e, .int one] : List D) (kind - 1) = some (.int x) := by
              have : kind = 1 ∨ kind = 2 ∨ kind = 3 := by omega
              rcases this with rfl | rfl | rfl
              · exact ⟨one, r3, rfl⟩
              · exact ⟨e, ⟨h3, h4⟩, rfl⟩
              · exact ⟨one, r3, rfl⟩
            obtain ⟨x, hx, ha⟩ := ha
            refine ⟨_, ?_, fin x (offP s 6).2 hx⟩
            rcases hw with rfl | ⟨d', rfl⟩ <;> simp [ioOf, T, d_1, List.findIdx?, List.findIdx?.go, p1, flat_l, sizeLine_eq, hzb, c1, c2, ha])
    refine ⟨b, s', w, hb, by rw [hl, rangeD_len, Int.sub_zero], by rw [e', es]⟩
  refine ⟨b, s', hb, by omega, ?_⟩
  rw [evF]
  simp [T, d_4, b_4, List.findIdx?, List.findIdx?.go, ioOf, d_1, o1, o2, o3, e2, flat_l, sizeLine_eq]
end K15

namespace K15
open PySem L2 Pf
variable {W : Nat}
def Tr3 (a b c : Sl) : Prop := (a = .un ∧ b = .un ∧ c = .un) ∨ ∃ x y p, a = .va x ∧ b = .va y ∧ c = .ow true p
theorem lex_sg {e : Int} : ∀ a b : List Int, HT.lexLt (a.map (sg e)) (b.map (sg e)) = HT.lexLt a b
  | [], [] => rfl
  | [], _ :: _ => rfl
  | _ :: _, [] => rfl
  | x :: a, y :: b => by
    rw [List.map_cons, List.map_cons, HT.lexLt_cons, HT.lexLt_cons, lex_sg a b]
    by_cases q : x = y
    · subst q; rw [if_pos rfl, if_pos rfl]
    · rw [if_neg q, if_neg fun z => q (sg_inj z)]
      rcases Int.lt_trichotomy x y with k | k | k
      · rw [decide_eq_true k, decide_eq_true (sg_lt k)]
      · exact absurd k q
      · have := sg_lt (e := e) k
        rw [decide_eq_false (by omega), decide_eq_false (by omega)]
theorem short_int (a b : List Int) (k : Int) : (decide ((a.length : Int) + k < (b.length : Int) + k) || (decide ((a.length : Int) + k = (b.length : Int) + k) && HT.lexLt a b)) = shortLt a b := by
  unfold shortLt
  have e1 : decide ((a.length : Int) + k < (b.length : Int) + k) = decide (a.length < b.length) := by
    by_cases h : a.length < b.length
    · rw [decide_eq_true h, decide_eq_true (by omega)]
    · rw [decide_eq_false h, decide_eq_false (by omega)]
  have e2 : decide ((a.length : Int) + k = (b.length : Int) + k) = decide (a.length = b.length) := by
    by_cases h : a.length = b.length
    · rw [decide_eq_true h, decide_eq_true (by omega)]
    · rw [decide_eq_false h, decide_eq_false (by omega)]
  rw [e1, e2]
/-- the two orders are one -/
theorem orders {t e : Int} (h1 : 3 ≤ t) {b o r r' : List Int} (vb : Vd t b) (vo : Vd t o) (w : Vd (t - 1) r) (w' : Vd (t - 1) r') (er : num (t - 1) r = num t b) (er' : num (t - 1) r' = num t o) :
    ∃ β : Bool, ltD (.tup [.int b.length, .lst (b.map .int)]) (.tup [.int o.length, .lst (o.map .int)]) = .ok β ∧
      ltD (.tup [.int (((r.map (sg e)).length : Int) + 1), .lst ((r.map (sg e)).map .int)]) (.tup [.int (((r'.map (sg e)).length : Int) + 1), .lst ((r'.map (sg e)).map .int)]) = .ok β := by
  refine ⟨shortLt b o, ?_, ?_⟩
  · rw [ltD_len]
    have := short_int b o 0
    simp only [Int.add_zero] at this
    rw [this]
  · rw [ltD_len, lex_sg, List.length_map, List.length_map, short_int, short_num (show (1 : Int) ≤ t by omega) vb vo, short_num (show (1 : Int) ≤ t - 1 by omega) w w', er, er']
theorem inner (hW : 2000 ≤ W) (pr : Nat → CF) (n : Nat) {t e : Int} (h1 : 3 ≤ t) (h2 : t ≤ 16) (h3 : 0 ≤ e) (h4 : e < t) {b r : List Int} (vb : Vd t b) (w : Vd (t - 1) r) (er : num (t - 1) r = num t b) (Bs : List (List Int)) (hB : ∀ b ∈ Bs, Vd t b ∧ b.length ≤ 60)
    (x0 x1 x2 x3 x5 x7 x9 x11 x12 : Sl) (a b' c : Sl) (h : Tr3 a b' c) : ∃ a' b'' c', Tr3 a' b'' c' ∧
      evS T (evF T pr W (n + 4)) W w_25_0 [x0, x1, x2, x3, .va (wD t e), x5, .va (.lst (Bs.map fun b => .tup [.int b.length, .lst (b.map .int)])), x7, .va (.lst (b.map .int)), x9, .ow true (.lst ((r.map (sg e) ++ [e]).map .int)), x11, x12, .va (.int b.length), a, b', c] =
      .ok (.nx, [x0, x1, x2, x3, .va (wD t e), x5, .va (.lst (Bs.map fun b => .tup [.int b.length, .lst (b.map .int)])), x7, .va (.lst (b.map .int)), x9, .ow true (.lst ((r.map (sg e) ++ [e]).map .int)), x11, x12, .va (.int b.length), a', b'', c']) := by
  unfold w_25_0
  rw [evS]
  have ei : ∀ a b' c, evI T (evF T pr W (n + 4)) (.of (.var 6)) [x0, x1, x2, x3, .va (wD t e), x5, .va (.lst (Bs.map fun b => .tup [.int b.length, .lst (b.map .int)])), x7, .va (.lst (b.map .int)), x9, .ow true (.lst ((r.map (sg e) ++ [e]).map .int)), x11, x12, .va (.int b.length), a, b', c] = .ok (Bs.map fun b => .tup [.int b.length, .lst (b.map .int)], [x0, x1, x2, x3, .va (wD t e), x5, .va (.lst (Bs.map fun b => .tup [.int b.length, .lst (b.map .int)])), x7, .va (.lst (b.map .int)), x9, .ow true (.lst ((r.map (sg e) ++ [e]).map .int)), x11, x12, .va (.int b.length), a, b', c]) := fun a b' c => by simp
  rw [ei, Rs.bind_ok]
  have eR : (r.map (sg e) ++ [e]).map D.int = (r.map (sg e)).map D.int ++ [.int e] := by simp
  rw [eR]
  obtain ⟨sl', e', a', b'', c', h', es⟩ := forLoop_inv (Bs.map fun b => D.tup [.int b.length, .lst (b.map .int)]) (body := fun d sl => (giveT (.many [14, 15]) d sl).bind fun sl => evSs T (evF T pr W (n + 4)) W (.cons (.asg 16 (.call 19 (.cons (.var 4) (.cons (.var 15) .nil)))) (.cons (.ite (.cmp .ne (.cmp .lt (.tup (.cons (.var 13) (.cons (.var 8) .nil))) (.tup (.cons (.var 14) (.cons (.var 15) .nil)))) (.cmp .lt (.tup (.cons (.bi .len (.cons (.var 10) .nil)) (.cons (.sl (.var 10) .none (.some (.neg (.cI 1)))) .nil))) (.tup (.cons (.bi .len (.cons (.var 16) .nil)) (.cons (.sl (.var 16) .none (.some (.neg (.cI 1)))) .nil))))) (.cons (.ret (.cB false)) .nil) (.nil)) .nil)) sl)
    (I := fun i sl => ∃ a b' c, Tr3 a b' c ∧ sl = [x0, x1, x2, x3, .va (wD t e), x5, .va (.lst (Bs.map fun b => .tup [.int b.length, .lst (b.map .int)])), x7, .va (.lst (b.map .int)), x9, .ow true (.lst ((r.map (sg e)).map .int ++ [.int e])), x11, x12, .va (.int b.length), a, b', c])
    (sl := [x0, x1, x2, x3, .va (wD t e), x5, .va (.lst (Bs.map fun b => .tup [.int b.length, .lst (b.map .int)])), x7, .va (.lst (b.map .int)), x9, .ow true (.lst ((r.map (sg e)).map .int ++ [.int e])), x11, x12, .va (.int b.length), a, b', c]) ⟨a, b', c, h, rfl⟩ (fun i d sl hd ⟨a, b', c, h, es⟩ => by
      rw [List.getElem?_map] at hd
      cases ho : Bs[i]? with
      | none => rw [ho] at hd; cases hd
      | some o =>
        rw [ho] at hd
        have hd : D.tup [.int o.length, .lst (o.map .int)] = d := Option.some.inj hd
        subst hd es
        obtain ⟨vo, lo⟩ := hB o (List.mem_of_getElem? ho)
        obtain ⟨r', w', er'⟩ := row_ex (show (1 : Int) ≤ t - 1 by omega) (num_nonneg (show (1 : Int) ≤ t by omega) vo)
        have e19 := ev_framed hW pr n h1 h2 h3 h4 vo lo w' er'
        obtain ⟨β, o1, o2⟩ := orders (e := e) h1 vb vo w w' er er'
        have eR' : (r'.map (sg e) ++ [e]).map D.int = (r'.map (sg e)).map D.int ++ [.int e] := by simp
        rw [eR'] at e19
        have c1 := cut_last ((r.map (sg e)).map D.int) (.int e)
        have c2 := cut_last ((r'.map (sg e)).map D.int) (.int e)
        refine ⟨[x0, x1, x2, x3, .va (wD t e), x5, .va (.lst (Bs.map fun b => .tup [.int b.length, .lst (b.map .int)])), x7, .va (.lst (b.map .int)), x9, .ow true (.lst ((r.map (sg e)).map .int ++ [.int e])), x11, x12, .va (.int b.length), .va (.int o.length), .va (.lst (o.map .int)), .ow true (.lst ((r'.map (sg e)).map .int ++ [.int e]))], ?_, _, _, _, .inr ⟨_, _, _, rfl, rfl, rfl⟩, rfl⟩
        generalize r.map (sg e) = R at o2 c1 ⊢
        generalize r'.map (sg e) = R' at o2 c2 e19 ⊢
        generalize (Bs.map fun b => D.tup [.int b.length, .lst (b.map .int)]) = KK
        have f1 : scs (R'.map D.int ++ [.int e]) = some ((R' ++ [e]).map V.int) := by
          have := scs_int (R' ++ [e])
          rw [List.map_append] at this
          exact this
        rcases h with ⟨rfl, rfl, rfl⟩ | ⟨x, y, p, rfl, rfl, rfl⟩ <;> simp [ioOf, T, d_19, List.findIdx?, List.findIdx?.go, e19, o1, o2, c1, c2, sizeLine_eq, f1])
  exact ⟨a', b'', c', h', by rw [e', es]⟩
end K15

namespace K15
open PySem L2 Pf
variable {W : Nat}
theorem outer (hW : 2000 ≤ W) (pr : Nat → CF) (n : Nat) {t e : Int} (h1 : 3 ≤ t) (h2 : t ≤ 16) (h3 : 0 ≤ e) (h4 : e < t) (Bs : List (List Int)) (hB : ∀ b ∈ Bs, Vd t b ∧ b.length ≤ 60)
    (x0 x1 x3 x7 x9 x11 : Sl) (d8 : D) (p10 p6 : OP) (h6 : p6 = .lst (Bs.map fun b => .tup [.int b.length, .lst (b.map .int)])) : ∃ sl',
      evS T (evF T pr W (n + 4)) W w_25_1 [x0, x1, .va (.int t), x3, .va (wD t e), .ow true (.lst ((plL t e).map .int)), .ow true p6, x7, .va d8, x9, .ow true p10, x11, .un, .un, .un, .un, .un] =
      .ok (.nx, sl') := by
  subst h6
  unfold w_25_1
  rw [evS]
  have ei : evI T (evF T pr W (n + 4)) (.of (.var 6)) [x0, x1, .va (.int t), x3, .va (wD t e), .ow true (.lst ((plL t e).map .int)), .ow true (.lst (Bs.map fun b => .tup [.int b.length, .lst (b.map .int)])), x7, .va d8, x9, .ow true p10, x11, .un, .un, .un, .un, .un] =
      .ok (Bs.map fun b => .tup [.int b.length, .lst (b.map .int)], [x0, x1, .va (.int t), x3, .va (wD t e), .ow true (.lst ((plL t e).map .int)), .va (.lst (Bs.map fun b => .tup [.int b.length, .lst (b.map .int)])), x7, .va d8, x9, .ow true p10, x11, .un, .un, .un, .un, .un]) := by simp
  rw [ei, Rs.bind_ok]
  obtain ⟨sl', e', _⟩ := forLoop_inv (Bs.map fun b => D.tup [.int b.length, .lst (b.map .int)]) (body := fun d sl => (giveT (.many [13, 8]) d sl).bind fun sl => evSs T (evF T pr W (n + 4)) W (.cons (.asg 10 (.call 19 (.cons (.var 4) (.cons (.var 8) .nil)))) (.cons (.ite (.cmp .ne (.call 5 (.cons (c_25_0) (.cons (.bin .sub (.var 2) (.cI 1)) .nil))) (.call 5 (.cons (.var 8) (.cons (.var 2) .nil)))) (.cons (.ret (.cB false)) .nil) (.nil)) (.cons (w_25_0) .nil))) sl)
    (I := fun i sl => ∃ d8 p10 v13 a b' c, Fr v13 ∧ Tr3 a b' c ∧ sl = [x0, x1, .va (.int t), x3, .va (wD t e), .ow true (.lst ((plL t e).map .int)), .va (.lst (Bs.map fun b => .tup [.int b.length, .lst (b.map .int)])), x7, .va d8, x9, .ow true p10, x11, .un, v13, a, b', c])
    (sl := [x0, x1, .va (.int t), x3, .va (wD t e), .ow true (.lst ((plL t e).map .int)), .va (.lst (Bs.map fun b => .tup [.int b.length, .lst (b.map .int)])), x7, .va d8, x9, .ow true p10, x11, .un, .un, .un, .un, .un]) ⟨d8, p10, .un, .un, .un, .un, .inl rfl, .inl ⟨rfl, rfl, rfl⟩, rfl⟩ (fun i d sl hd ⟨d8, p10, v13, a, b', c, hv, h, es⟩ => by
      rw [List.getElem?_map] at hd
      cases ho : Bs[i]? with
      | none => rw [ho] at hd; cases hd
      | some b =>
        rw [ho] at hd
        have hd : D.tup [.int b.length, .lst (b.map .int)] = d := Option.some.inj hd
        subst hd es
        obtain ⟨vb, lb⟩ := hB b (List.mem_of_getElem? ho)
        obtain ⟨r, w, er⟩ := row_ex (show (1 : Int) ≤ t - 1 by omega) (num_nonneg (show (1 : Int) ≤ t by omega) vb)
        have hr := len_bound h1 h2 vb lb w er
        have e19 := ev_framed hW pr n h1 h2 h3 h4 vb lb w er
        have n1 := ev_number (W := W) pr (n + 3) (show 2 ≤ t - 1 by omega) (show t - 1 ≤ 16 by omega) r
        have n2 := ev_number (W := W) pr (n + 3) (show 2 ≤ t by omega) h2 b
        rw [er] at n1
        obtain ⟨a1, b1, c1', hT, hin⟩ := inner hW pr n h1 h2 h3 h4 vb w er Bs hB x0 x1 (.va (.int t)) x3 (.ow true (.lst ((plL t e).map .int))) x7 x9 x11 .un a b' c h
        have eR : (r.map (sg e) ++ [e]).map D.int = (r.map (sg e)).map D.int ++ [.int e] := by simp
        rw [eR] at e19 hin
        have c1 := cut_last ((r.map (sg e)).map D.int) (.int e)
        generalize hK : (Bs.map fun b => D.tup [.int b.length, .lst (b.map .int)]) = KK at hin ⊢
        have e5 : evE T (evF T pr W (n + 4)) c_25_0 [x0, x1, .va (.int t), x3, .va (wD t e), .ow true (.lst ((plL t e).map .int)), .va (.lst KK), x7, .va (.lst (b.map .int)), x9, .ow true (.lst ((r.map (sg e)).map .int ++ [.int e])), x11, .un, .va (.int b.length), a, b', c] = .ok (.fr (.lst (r.filterMap fun x => some (.int x))), [x0, x1, .va (.int t), x3, .va (wD t e), .ow true (.lst ((plL t e).map .int)), .va (.lst KK), x7, .va (.lst (b.map .int)), x9, .ow true (.lst ((r.map (sg e)).map .int ++ [.int e])), x11, .un, .va (.int b.length), a, b', c]) := by
          refine evE_lc_pure (fun c : Int => D.int (sg e c)) _ r ?_ ?_ ?_ fun c0 hc => ⟨[x0, x1, .va (.int t), x3, .va (wD t e), .ow true (.lst ((plL t e).map .int)), .va (.lst KK), x7, .va (.lst (b.map .int)), x9, .ow true (.lst ((r.map (sg e)).map .int ++ [.int e])), x11, .va (.int (sg e c0)), .va (.int b.length), a, b', c], ?_⟩
          · have eg : (r.map fun c => D.int (sg e c)) = (r.map (sg e)).map D.int := by simp
            rw [eg]
            generalize (r.map (sg e)).map D.int = R at c1 ⊢
            simp [c1]
          · simp
          · rw [sizeLine_eq]; omega
          · obtain ⟨q0, q1⟩ := w c0 hc
            simp [lcW, index_pl q0 q1]
        rw [fm_some] at e5
        refine ⟨[x0, x1, .va (.int t), x3, .va (wD t e), .ow true (.lst ((plL t e).map .int)), .va (.lst KK), x7, .va (.lst (b.map .int)), x9, .ow true (.lst ((r.map (sg e)).map .int ++ [.int e])), x11, .un, .va (.int b.length), a1, b1, c1'], ?_, _, _, _, _, _, _, .inr ⟨_, rfl⟩, hT, rfl⟩
        have f1 : scs ((r.map (sg e)).map D.int ++ [.int e]) = some ((r.map (sg e) ++ [e]).map V.int) := by
          have := scs_int (r.map (sg e) ++ [e])
          rw [List.map_append] at this
          exact this
        generalize r.map (sg e) = R at e19 hin e5 f1 ⊢
        rcases hv with rfl | ⟨x, rfl⟩ <;> simp [ioOf, T, d_19, d_5, List.findIdx?, List.findIdx?.go, e19, e5, n1, n2, hin, f1, sizeLine_eq])
  exact ⟨sl', e'⟩
end K15

namespace K15
open PySem L2 Pf
variable {W : Nat}
def stepP (t e : Int) (s : Dc) (_ : Int) : Option D × Dc := (some (.int (sg e (offP s (t - 1)).1)), (offP s (t - 1)).2)
theorem lcf {t e : Int} (h1 : 3 ≤ t) : ∀ (xs : List Int) (s : Dc), ∃ q, Vd (t - 1) q ∧ q.length = xs.length ∧ (lcFold (stepP t e) xs s).1 = (q.map (sg e)).map .int
  | [], s => ⟨[], Vd.nil, rfl, rfl⟩
  | x :: xs, s => by
    obtain ⟨q, v, l, h⟩ := lcf (e := e) h1 xs (stepP t e s x).2
    refine ⟨(offP s (t - 1)).1 :: q, Vd.cons (offP_range s (t - 1) (by omega)) v, by simp [l], ?_⟩
    unfold lcFold
    rw [h]
    rfl
theorem ev_frame (pr : Nat → CF) (n : Nat) {t e : Int} (h1 : 3 ≤ t) (h2 : t ≤ 16) (b : List Int) (hb : b.length ≤ 1000) (s : Dc) (x0 x3 x4 x6 x7 x9 x10 x11 x13 x14 x15 x16 : Sl) : ∃ (q : List Int) (s' : Dc), Vd (t - 1) q ∧ q.length = b.length ∧
    evE T (evF T pr W (n + 1)) c_25_1 [x0, .ow true (.lst s.l), .va (.int t), x3, x4, .ow true (.lst ((plL t e).map .int)), x6, x7, .va (.lst (b.map .int)), x9, x10, x11, .un, x13, x14, x15, x16] =
      .ok (.fr (.lst ((q.map (sg e)).map .int)), [x0, .ow true (.lst s'.l), .va (.int t), x3, x4, .ow true (.lst ((plL t e).map .int)), x6, x7, .va (.lst (b.map .int)), x9, x10, x11, .un, x13, x14, x15, x16]) := by
  obtain ⟨q, v, l, h⟩ := lcf (e := e) h1 b s
  refine ⟨q, (lcFold (stepP t e) b s).2, v, l, ?_⟩
  rw [← h]
  refine evE_lc_st (fun s : Dc => [x0, .ow true (.lst s.l), .va (.int t), x3, x4, .ow true (.lst ((plL t e).map .int)), x6, x7, .va (.lst (b.map .int)), x9, x10, x11, .un, x13, x14, x15, x16]) (fun c : Int => D.int c) (stepP t e) s b ?_ ?_ ?_ (fun s x hx => ⟨[x0, .ow true (.lst (offP s (t - 1)).2.l), .va (.int t), x3, x4, .ow true (.lst ((plL t e).map .int)), x6, x7, .va (.lst (b.map .int)), x9, x10, x11, .va (.int x), x13, x14, x15, x16], ?_⟩) (fun s j hj => ?_) fun s => rfl
  · simp
  · simp
  · rw [sizeLine_eq]; omega
  · have o := ev_off (W := W) pr n s (t - 1) (by omega) (by omega)
    have r := offP_range s (t - 1) (by omega)
    have a := atI_pl (e := e) r.1 r.2
    simp [lcW, stepP, ioOf, T, d_1, List.findIdx?, List.findIdx?.go, o, a, flat_l]
  · have : j = 12 := by simpa using hj
    subst this
    rfl
def St5 (i : Nat) (a b c d f : Sl) : Prop := (i = 0 ∧ a = .un ∧ b = .un ∧ c = .un ∧ d = .un ∧ f = .un) ∨ ∃ x y z p q, a = .va x ∧ b = .va y ∧ c = .va z ∧ d = .ow true p ∧ f = .ow true q
theorem first (hW : 2000 ≤ W) (pr : Nat → CF) (n : Nat) {t e : Int} (h1 : 3 ≤ t) (h2 : t ≤ 16) (h3 : 0 ≤ e) (h4 : e < t) (s : Dc) (x0 : Sl) : ∃ (s' : Dc) (Bs : List (List Int)) (x7 x9 x11 : Sl) (d8 : D) (p10 : OP), (∀ b ∈ Bs, Vd t b ∧ b.length ≤ 60) ∧
    evS T (evF T pr W (n + 4)) W w_25_2 [x0, .ow true (.lst s.l), .va (.int t), .va (.int e), .va (wD t e), .ow true (.lst ((plL t e).map .int)), .ow true (.lst []), .un, .un, .un, .un, .un, .un, .un, .un, .un, .un] =
      .ok (.nx, [x0, .ow true (.lst s'.l), .va (.int t), .va (.int e), .va (wD t e), .ow true (.lst ((plL t e).map .int)), .ow true (.lst (Bs.map fun b => .tup [.int b.length, .lst (b.map .int)])), x7, .va d8, x9, .ow true p10, x11, .un, .un, .un, .un, .un]) := by
  unfold w_25_2
  rw [evS]
  have ei : evI T (evF T pr W (n + 4)) (.rng1 (.cI 6)) [x0, .ow true (.lst s.l), .va (.int t), .va (.int e), .va (wD t e), .ow true (.lst ((plL t e).map .int)), .ow true (.lst []), .un, .un, .un, .un, .un, .un, .un, .un, .un, .un] = .ok (rangeD 0 6, [x0, .ow true (.lst s.l), .va (.int t), .va (.int e), .va (wD t e), .ow true (.lst ((plL t e).map .int)), .ow true (.lst []), .un, .un, .un, .un, .un, .un, .un, .un, .un, .un]) := by simp
  rw [ei, Rs.bind_ok]
  obtain ⟨sl', e', s', Bs, x7, x8, x9, x10, x11, hs, hB, hL, es⟩ := forLoop_inv (rangeD 0 6) (body := fun d sl => (giveT (.one 7) d sl).bind fun sl => evSs T (evF T pr W (n + 4)) W (.cons (.asg 8 (.call 4 (.cons (.var 1) (.cons (.var 2) (.cons (.var 3) (.cons (.ix (.lst (.cons (.cI 4) (.cons (.cI 20) (.cons (.cI 59) .nil)))) (.call 1 (.cons (.var 1) (.cons (.cI 3) .nil)))) .nil)))))) (.cons (.asg 9 (.call 5 (.cons (.var 8) (.cons (.var 2) .nil)))) (.cons (.ex (.bm .append (.var 6) (.cons (.tup (.cons (.bi .len (.cons (.var 8) .nil)) (.cons (.var 8) .nil))) .nil))) (.cons (.ex (.bm .append (.var 6) (.cons (.tup (.cons (.bi .len (.cons (.call 6 (.cons (.bin .add (.var 9) (.cI 1)) (.cons (.var 2) .nil))) .nil)) (.cons (.call 6 (.cons (.bin .add (.var 9) (.cI 1)) (.cons (.var 2) .nil))) .nil))) .nil))) (.cons (.asg 10 (.bin .add (c_25_1) (.lst (.cons (.var 3) .nil)))) (.cons (.asg 11 (.call 24 (.cons (.var 4) (.cons (.var 10) .nil)))) (.cons (.ite (.or (.cons (.isN (.var 11)) (.cons (.cmp .ne (.call 19 (.cons (.var 4) (.cons (.var 11) .nil))) (.var 10)) .nil))) (.cons (.ret (.cB false)) .nil) (.nil)) .nil))))))) sl)
    (I := fun i sl => ∃ (s : Dc) (Bs : List (List Int)) (x7 x8 x9 x10 x11 : Sl), St5 i x7 x8 x9 x10 x11 ∧ (∀ b ∈ Bs, Vd t b ∧ b.length ≤ 60) ∧ Bs.length = 2 * i ∧ sl = [x0, .ow true (.lst s.l), .va (.int t), .va (.int e), .va (wD t e), .ow true (.lst ((plL t e).map .int)), .ow true (.lst (Bs.map fun b => .tup [.int b.length, .lst (b.map .int)])), x7, x8, x9, x10, x11, .un, .un, .un, .un, .un])
    (sl := [x0, .ow true (.lst s.l), .va (.int t), .va (.int e), .va (wD t e), .ow true (.lst ((plL t e).map .int)), .ow true (.lst []), .un, .un, .un, .un, .un, .un, .un, .un, .un, .un]) ⟨s, [], _, _, _, _, _, .inl ⟨rfl, rfl, rfl, rfl, rfl, rfl⟩, fun _ h => absurd h List.not_mem_nil, rfl, rfl⟩ (fun i d sl hd ⟨s, Bs, x7, x8, x9, x10, x11, hs, hB, hL, es⟩ => by
      obtain ⟨hi, hd⟩ := rangeD_get hd
      rw [Int.zero_add] at hd
      subst hd es
      have hi6 : i < 6 := by omega
      have o1 : evF T pr W (n + 4) 1 [.ow false (.lst s.l), .va (.int 3)] = .ok (.va (.int (offP s 3).1), some (.lst (offP s 3).2.l)) := ev_off pr (n + 3) s 3 (by decide) (by decide)
      have r1 := offP_range s 3 (by decide)
      obtain ⟨k, hk0, hk1, ha⟩ : ∃ k : Int, 0 ≤ k ∧ k ≤ 59 ∧ atI ([.int 4, .int 20, .int 59] : List D) (offP s 3).1 = some (.int k) := by
        have : (offP s 3).1 = 0 ∨ (offP s 3).1 = 1 ∨ (offP s 3).1 = 2 := by omega
        rcases this with z | z | z <;> rw [z]
        · exact ⟨4, by decide, by decide, rfl⟩
        · exact ⟨20, by decide, by decide, rfl⟩
        · exact ⟨59, by decide, by decide, rfl⟩
      generalize (offP s 3).1 = z1 at o1 ha
      generalize (offP s 3).2 = s1 at o1
      obtain ⟨b, s2, vb, lb, eb⟩ := ev_body (W := W) pr (n + 2) s1 h1 h2 h3 h4 hk0 (show k ≤ 60 by omega)
      have lb' : b.length ≤ 59 := by omega
      have n2 : evF T pr W (n + 4) 5 [.va (.lst (b.map .int)), .va (.int t)] = .ok (.va (.int (num t b)), none) := ev_number (W := W) pr (n + 3) (show 2 ≤ t by omega) h2 b
      have t1 : (1 : Int) ≤ t := by omega
      have nb := num_nonneg t1 vb
      obtain ⟨b1, vb1, eb1⟩ := row_ex t1 (show 0 ≤ num t b + 1 by omega)
      have lb1 : b1.length ≤ 60 := by
        by_cases q : b1.length ≤ 60
        · exact q
        · have a1 := (num_between t1 b vb).2
          have a2 := (num_between t1 b1 vb1).1
          have a3 := ahead_mono t1 (show 61 ≤ b1.length by omega)
          have a4 := ahead_mono t1 (show b.length + 1 ≤ 60 by omega)
          have a5 : ahead t 60 < ahead t 61 := ahead_step t1 60
          omega
      have el : evF T pr W (n + 4) 6 [.va (.int (num t b + 1)), .va (.int t)] = .ok (.fr (.lst (b1.map .int)), none) := by
        rw [← eb1]
        exact ev_list hW pr (n + 3) (show 2 ≤ t by omega) h2 vb1 (by omega)
      have ef := fun (x6 x9 x10 x11 x7 : Sl) => ev_frame (W := W) (e := e) pr (n + 3) h1 h2 b (by omega) s2 x0 (.va (.int e)) (.va (wD t e)) x6 x7 x9 x10 x11 .un .un .un .un
      obtain ⟨q, s3, vq, lq, ef⟩ := ef (.ow true (.lst ((Bs ++ [b, b1]).map fun b => .tup [.int b.length, .lst (b.map .int)]))) (.va (.int (num t b))) x10 x11 (.va (.int (i : Nat)))
      obtain ⟨f, vf, eff⟩ := row_ex t1 (num_nonneg (show (1 : Int) ≤ t - 1 by omega) vq)
      have lf := len_base (show (1 : Int) ≤ t - 1 by omega) (show t - 1 ≤ t by omega) vq vf eff.symm
      have e24 := ev_bodyof hW pr n h1 h2 h3 h4 vq (by omega) vf eff
      have e19 := ev_framed hW pr n h1 h2 h3 h4 vf (by omega) vq eff.symm
      refine ⟨[x0, .ow true (.lst s3.l), .va (.int t), .va (.int e), .va (wD t e), .ow true (.lst ((plL t e).map .int)), .ow true (.lst ((Bs ++ [b, b1]).map fun b => .tup [.int b.length, .lst (b.map .int)])), .va (.int (i : Nat)), .va (.lst (b.map .int)), .va (.int (num t b)), .ow true (.lst ((q.map (sg e) ++ [e]).map .int)), .ow true (.lst (f.map .int)), .un, .un, .un, .un, .un], ?_, s3, Bs ++ [b, b1], _, _, _, _, _, .inr ⟨_, _, _, _, _, rfl, rfl, rfl, rfl, rfl⟩, ?_, by simp [hL]; omega, rfl⟩
      · have hz1 : Bs.length < 16777216 := by omega
        have hz2 : Bs.length + 1 < 16777216 := by omega
        have lR : (q.map (sg e)).length = b.length := by rw [List.length_map]; exact lq
        have eq1 := eqD_il (q.map (sg e) ++ [e]) (q.map (sg e) ++ [e])
        have f1 := scs_int (q.map (sg e) ++ [e])
        generalize q.map (sg e) = R at ef e24 e19 eq1 f1 lR ⊢
        have hz3 : R.length + 1 ≤ 16777216 := by omega
        have eR : (R ++ [e]).map D.int = R.map D.int ++ [.int e] := by simp
        rw [eR] at e24 e19 eq1 f1 ⊢
        have eK : ((Bs ++ [b, b1]).map fun b => D.tup [.int b.length, .lst (b.map .int)]) = (Bs.map fun b => D.tup [.int b.length, .lst (b.map .int)]) ++ [.tup [.int b.length, .lst (b.map .int)], .tup [.int b1.length, .lst (b1.map .int)]] := by simp
        rw [eK] at ef ⊢
        have hKl : (Bs.map fun b => D.tup [.int b.length, .lst (b.map .int)]).length = Bs.length := List.length_map ..
        generalize (Bs.map fun b => D.tup [.int b.length, .lst (b.map .int)]) = KK at hKl ef ⊢
        have hz4 : KK.length < 16777216 := by omega
        have hz5 : KK.length + 1 < 16777216 := by omega
        rcases hs with ⟨_, rfl, rfl, rfl, rfl, rfl⟩ | ⟨_, _, _, _, _, rfl, rfl, rfl, rfl, rfl⟩ <;> simp [ioOf, T, d_1, d_4, d_5, d_6, d_19, d_24, List.findIdx?, List.findIdx?.go, o1, ha, eb, n2, el, ef, e24, e19, eq1, f1, flat_l, sizeLine_eq, hz3, hz4, hz5, nonD]
      · intro x hx
        rcases List.mem_append.mp hx with hx | hx
        · exact hB x hx
        · rcases List.mem_cons.mp hx with hx | hx
          · subst hx; exact ⟨vb, by omega⟩
          · have : x = b1 := by simpa using hx
            subst this; exact ⟨vb1, lb1⟩)
  rcases hs with ⟨h, _⟩ | ⟨x, y, z, p, q, h7, h8, h9, h10, h11⟩
  · rw [rangeD_len] at h; exact absurd h (by decide)
  · subst h7 h8 h9 h10 h11
    exact ⟨s', Bs, _, _, _, _, _, hB, by rw [e', es]⟩
end K15

namespace K15
open PySem L2 Pf
variable {W : Nat}
theorem law_true (hW : 2000 ≤ W) (pr : Nat → CF) (n : Nat) (ns : List Int) (hl : ns.length ≤ 63) : evF T pr W (n + 5) 25 [.va (.scr ns)] = .ok (.va (.bl true), none) := by
  obtain ⟨s, e1⟩ := ev_dice (W := W) pr (n + 3) ns hl 0
  have e1 : evF T pr W (n + 4) 0 [.va (.scr ns), .va (.int 0)] = .ok (.fr (.lst s.l), none) := e1
  obtain ⟨t, h1, h2, e2⟩ := ev_size (W := W) pr (n + 2) s
  have e2 : evF T pr W (n + 4) 3 [.ow false (.lst s.l)] = .ok (.va (.int t), some (.lst (offP s 8).2.l)) := e2
  generalize (offP s 8).2 = s1 at e2
  have e3 : evF T pr W (n + 4) 1 [.ow false (.lst s1.l), .va (.int t)] = .ok (.va (.int (offP s1 t).1), some (.lst (offP s1 t).2.l)) := ev_off pr (n + 3) s1 t (by omega) (by omega)
  have r3 := offP_range s1 t (by omega)
  generalize (offP s1 t).1 = e at e3 r3
  generalize (offP s1 t).2 = s2 at e3
  have e4 : evF T pr W (n + 4) 2 [.va (.int t), .va (.int e)] = .ok (.fr (.lst ((plL t e).map .int)), none) := ev_plain pr (n + 3) r3.1 r3.2 h2
  obtain ⟨s3, Bs, x7, x9, x11, d8, p10, hB, e5⟩ := first hW pr n h1 h2 r3.1 r3.2 s2 (.va (.scr ns))
  obtain ⟨sl', e6⟩ := outer hW pr n h1 h2 r3.1 r3.2 Bs hB (.va (.scr ns)) (.ow true (.lst s3.l)) (.va (.int e)) x7 x9 x11 d8 p10 _ rfl
  rw [evF]
  simp [T, d_25, b_25, List.findIdx?, List.findIdx?.go, ioOf, d_0, d_1, d_2, d_3, e1, e2, e3, e4, e5, e6, flat_l, sizeLine_eq]
end K15

namespace K15
open PySem L2 Pf
section
variable {P : Program} {w : World} {K : PySem.W.Frag} {mg : Str → Option Value} {base : Heap} {ev : Ev} {pr : Nat → CF} {n : Nat}
theorem lv0 (Z : Txt K mg ev) : Lv P w K mg base ev pr 0 := fun f d h => match f, h with
  | 0, _ => fn_zero (k := 1) Z.F_0 sc_0
  | 1, _ => fn_zero (k := 1) Z.F_1 sc_1
  | 2, _ => fn_zero (k := 1) Z.F_2 sc_2
  | 3, _ => fn_zero (k := 1) Z.F_3 sc_3
  | 4, _ => fn_zero (k := 1) Z.F_4 sc_4
  | 5, _ => fn_zero (k := 1) Z.F_5 sc_5
  | 6, _ => fn_zero (k := 1) Z.F_6 sc_6
  | 7, _ => fn_zero (k := 1) Z.F_7 sc_7
  | 8, _ => fn_zero (k := 1) Z.F_8 sc_8
  | 9, _ => fn_zero (k := 1) Z.F_9 sc_9
  | 10, _ => fn_zero (k := 1) Z.F_10 sc_10
  | 11, _ => fn_zero (k := 1) Z.F_11 sc_11
  | 12, _ => fn_zero (k := 1) Z.F_12 sc_12
  | 13, _ => fn_zero (k := 1) Z.F_13 sc_13
  | 14, _ => fn_zero (k := 1) Z.F_14 sc_14
  | 15, _ => fn_zero (k := 1) Z.F_15 sc_15
  | 16, _ => fn_zero (k := 1) Z.F_16 sc_16
  | 17, _ => fn_zero (k := 1) Z.F_17 sc_17
  | 18, _ => fn_zero (k := 1) Z.F_18 sc_18
  | 19, _ => fn_zero (k := 1) Z.F_19 sc_19
  | 20, _ => fn_zero (k := 1) Z.F_20 sc_20
  | 21, _ => fn_zero (k := 1) Z.F_21 sc_21
  | 22, _ => fn_zero (k := 1) Z.F_22 sc_22
  | 23, _ => fn_zero (k := 1) Z.F_23 sc_23
  | 24, _ => fn_zero (k := 1) Z.F_24 sc_24
  | 25, _ => fn_zero (k := 1) Z.F_25 sc_25
  | _ + 26, h => nomatch h
theorem lvS (Z : Txt K mg ev) (L : Lv P w K mg base ev pr n) : Lv P w K mg base ev pr (n + 1) := fun f d h => match f, h with
  | 0, _ => ok_0 Z L
  | 1, _ => ok_1 Z L
  | 2, _ => ok_2 Z L
  | 3, _ => ok_3 Z L
  | 4, _ => ok_4 Z L
  | 5, _ => ok_5 Z L
  | 6, _ => ok_6 Z L
  | 7, _ => ok_7 Z L
  | 8, _ => ok_8 Z L
  | 9, _ => ok_9 Z L
  | 10, _ => ok_10 Z L
  | 11, _ => ok_11 Z L
  | 12, _ => ok_12 Z L
  | 13, _ => ok_13 Z L
  | 14, _ => ok_14 Z L
  | 15, _ => ok_15 Z L
  | 16, _ => ok_16 Z L
  | 17, _ => ok_17 Z L
  | 18, _ => ok_18 Z L
  | 19, _ => ok_19 Z L
  | 20, _ => ok_20 Z L
  | 21, _ => ok_21 Z L
  | 22, _ => ok_22 Z L
  | 23, _ => ok_23 Z L
  | 24, _ => ok_24 Z L
  | 25, _ => ok_25 Z L
  | _ + 26, h => nomatch h
theorem lv (Z : Txt K mg ev) : ∀ n, Lv P w K mg base ev pr n
  | 0 => lv0 Z
  | n + 1 => lvS Z (lv Z n)
theorem ok_law (Z : Txt K mg ev) (hl : ∀ ns : List Int, ns.length ≤ 63 → evF T pr wf 30 25 [.va (.scr ns)] = .ok (.va (.bl true), none)) : FnOk P w K mg base CX0 62 (ev.fa 25) (ev.fd 25) ["_law_script"] (spLaw K) :=
  law_imp (G := gx K ev) (lv (P := P) (w := w) (base := base) (pr := pr) Z 30 25 _ rfl) rfl hl
end
theorem all_mk {K : PySem.W.Frag} {h : Heap} {mg : Str → Option Value} {fa ca0 f0 f1 f2 f3 f4 f5 f6 f7 f8 f9 f10 f11 f12 f13 f14 f15 f16 f17 f18 f19 f20 f21 f22 f23 f24 f25 : Addr} (X : K.In h) (G : h.Ns mainGlobals mg) (hfa : mg "law" = some (.ref fa))
    {od0 an0 od1 an1 od2 an2 od3 an3 od4 an4 od5 an5 od6 an6 od7 an7 od8 an8 od9 an9 od10 an10 od11 an11 od12 an12 od13 an13 od14 an14 od15 an15 od16 an16 od17 an17 od18 an18 od19 an19 od20 an20 od21 an21 od22 an22 od23 an23 od24 an24 od25 an25 : Option Addr} {sl0 sl1 sl2 sl3 sl4 sl5 sl6 sl7 sl8 sl9 sl10 sl11 sl12 sl13 sl14 sl15 sl16 sl17 sl18 sl19 sl20 sl21 sl22 sl23 sl24 sl25 : Array (Option Value)} {oc0 kV0 dc0 pm0 cd0 ct0 oc1 kV1 dc1 pm1 cd1 ct1 oc2 kV2 dc2 pm2 cd2 ct2 oc3 kV3 dc3 pm3 cd3 ct3 oc4 kV4 dc4 pm4 cd4 ct4 oc5 kV5 dc5 pm5 cd5 ct5 oc6 kV6 dc6 pm6 cd6 ct6 oc7 kV7 dc7 pm7 cd7 ct7 oc8 kV8 dc8 pm8 cd8 ct8 oc9 kV9 dc9 pm9 cd9 ct9 oc10 kV10 dc10 pm10 cd10 ct10 oc11 kV11 dc11 pm11 cd11 ct11 oc12 kV12 dc12 pm12 cd12 ct12 oc13 kV13 dc13 pm13 cd13 ct13 oc14 kV14 dc14 pm14 cd14 ct14 oc15 kV15 dc15 pm15 cd15 ct15 oc16 kV16 dc16 pm16 cd16 ct16 oc17 kV17 dc17 pm17 cd17 ct17 oc18 kV18 dc18 pm18 cd18 ct18 oc19 kV19 dc19 pm19 cd19 ct19 oc20 kV20 dc20 pm20 cd20 ct20 oc21 kV21 dc21 pm21 cd21 ct21 oc22 kV22 dc22 pm22 cd22 ct22 oc23 kV23 dc23 pm23 cd23 ct23 oc24 kV24 dc24 pm24 cd24 ct24 oc25 kV25 dc25 pm25 cd25 ct25 : Value}
    {t_LEAST_TOP t_MOST_BODY t_MOST_SIGNS t_MOST_TOP t_MOST_TURNS : Tok}
    (aC0 : PySem.W.nsIn K mainGlobals "Plan" = some (some (.ref ca0)))
    (pg0 : PySem.W.plainGet K ca0 Str.empty = true)
    (hd0 : PySem.W.hasDictIn K ca0 = true)
    (po0 : PySem.W.plainOver K ca0 = true)
    (sa0 : PySem.W.findIn K (.ref ca0) "__setattr__" = some (some (.builtin "object.__setattr__")))
    (mk0 : PySem.W.makesIn K ca0 = true)
    (kc0 : PySem.W.keepIn K (.ref ca0) = true)
    (a0 : PySem.W.nsIn K mainGlobals "_law_dice" = some (some (.ref f0)))
    (l0 : K.lookup f0 = some ⟨oc0, od0, .func (PySem.W.fnOf "_law_dice" "_law_dice" (defArgs s_0) (defBody s_0) (defScope s_0) .none kV0 dc0 pm0 an0 cd0 ct0), sl0⟩)
    (c0 : PySem.W.codeIn K cd0 "_law_dice" = true)
    (k0 : PySem.W.keepIn K (.ref f0) = true)
    (a1 : PySem.W.nsIn K mainGlobals "_law_off" = some (some (.ref f1)))
    (l1 : K.lookup f1 = some ⟨oc1, od1, .func (PySem.W.fnOf "_law_off" "_law_off" (defArgs s_1) (defBody s_1) (defScope s_1) .none kV1 dc1 pm1 an1 cd1 ct1), sl1⟩)
    (c1 : PySem.W.codeIn K cd1 "_law_off" = true)
    (k1 : PySem.W.keepIn K (.ref f1) = true)
    (a2 : PySem.W.nsIn K mainGlobals "_law_plain" = some (some (.ref f2)))
    (l2 : K.lookup f2 = some ⟨oc2, od2, .func (PySem.W.fnOf "_law_plain" "_law_plain" (defArgs s_2) (defBody s_2) (defScope s_2) .none kV2 dc2 pm2 an2 cd2 ct2), sl2⟩)
    (c2 : PySem.W.codeIn K cd2 "_law_plain" = true)
    (k2 : PySem.W.keepIn K (.ref f2) = true)
    (a3 : PySem.W.nsIn K mainGlobals "_law_size" = some (some (.ref f3)))
    (l3 : K.lookup f3 = some ⟨oc3, od3, .func (PySem.W.fnOf "_law_size" "_law_size" (defArgs s_3) (defBody s_3) (defScope s_3) .none kV3 dc3 pm3 an3 cd3 ct3), sl3⟩)
    (c3 : PySem.W.codeIn K cd3 "_law_size" = true)
    (k3 : PySem.W.keepIn K (.ref f3) = true)
    (a4 : PySem.W.nsIn K mainGlobals "_law_body" = some (some (.ref f4)))
    (l4 : K.lookup f4 = some ⟨oc4, od4, .func (PySem.W.fnOf "_law_body" "_law_body" (defArgs s_4) (defBody s_4) (defScope s_4) .none kV4 dc4 pm4 an4 cd4 ct4), sl4⟩)
    (c4 : PySem.W.codeIn K cd4 "_law_body" = true)
    (k4 : PySem.W.keepIn K (.ref f4) = true)
    (a5 : PySem.W.nsIn K mainGlobals "_law_number" = some (some (.ref f5)))
    (l5 : K.lookup f5 = some ⟨oc5, od5, .func (PySem.W.fnOf "_law_number" "_law_number" (defArgs s_5) (defBody s_5) (defScope s_5) .none kV5 dc5 pm5 an5 cd5 ct5), sl5⟩)
    (c5 : PySem.W.codeIn K cd5 "_law_number" = true)
    (k5 : PySem.W.keepIn K (.ref f5) = true)
    (a6 : PySem.W.nsIn K mainGlobals "_law_list" = some (some (.ref f6)))
    (l6 : K.lookup f6 = some ⟨oc6, od6, .func (PySem.W.fnOf "_law_list" "_law_list" (defArgs s_6) (defBody s_6) (defScope s_6) .none kV6 dc6 pm6 an6 cd6 ct6), sl6⟩)
    (c6 : PySem.W.codeIn K cd6 "_law_list" = true)
    (k6 : PySem.W.keepIn K (.ref f6) = true)
    (a7 : PySem.W.nsIn K mainGlobals "row_number" = some (some (.ref f7)))
    (l7 : K.lookup f7 = some ⟨oc7, od7, .func (PySem.W.fnOf "row_number" "row_number" (defArgs s_7) (defBody s_7) (defScope s_7) .none kV7 dc7 pm7 an7 cd7 ct7), sl7⟩)
    (c7 : PySem.W.codeIn K cd7 "row_number" = true)
    (k7 : PySem.W.keepIn K (.ref f7) = true)
    (a8 : PySem.W.nsIn K mainGlobals "row_at" = some (some (.ref f8)))
    (l8 : K.lookup f8 = some ⟨oc8, od8, .func (PySem.W.fnOf "row_at" "row_at" (defArgs s_8) (defBody s_8) (defScope s_8) .none kV8 dc8 pm8 an8 cd8 ct8), sl8⟩)
    (c8 : PySem.W.codeIn K cd8 "row_at" = true)
    (k8 : PySem.W.keepIn K (.ref f8) = true)
    (a9 : PySem.W.nsIn K mainGlobals "core" = some (some (.ref f9)))
    (l9 : K.lookup f9 = some ⟨oc9, od9, .func (PySem.W.fnOf "core" "core" (defArgs s_9) (defBody s_9) (defScope s_9) .none kV9 dc9 pm9 an9 cd9 ct9), sl9⟩)
    (c9 : PySem.W.codeIn K cd9 "core" = true)
    (k9 : PySem.W.keepIn K (.ref f9) = true)
    (a10 : PySem.W.nsIn K mainGlobals "turns" = some (some (.ref f10)))
    (l10 : K.lookup f10 = some ⟨oc10, od10, .func (PySem.W.fnOf "turns" "turns" (defArgs s_10) (defBody s_10) (defScope s_10) .none kV10 dc10 pm10 an10 cd10 ct10), sl10⟩)
    (c10 : PySem.W.codeIn K cd10 "turns" = true)
    (k10 : PySem.W.keepIn K (.ref f10) = true)
    (a11 : PySem.W.nsIn K mainGlobals "fault_of" = some (some (.ref f11)))
    (l11 : K.lookup f11 = some ⟨oc11, od11, .func (PySem.W.fnOf "fault_of" "fault_of" (defArgs s_11) (defBody s_11) (defScope s_11) .none kV11 dc11 pm11 an11 cd11 ct11), sl11⟩)
    (c11 : PySem.W.codeIn K cd11 "fault_of" = true)
    (k11 : PySem.W.keepIn K (.ref f11) = true)
    (a12 : PySem.W.nsIn K mainGlobals "need_way" = some (some (.ref f12)))
    (l12 : K.lookup f12 = some ⟨oc12, od12, .func (PySem.W.fnOf "need_way" "need_way" (defArgs s_12) (defBody s_12) (defScope s_12) .none kV12 dc12 pm12 an12 cd12 ct12), sl12⟩)
    (c12 : PySem.W.codeIn K cd12 "need_way" = true)
    (k12 : PySem.W.keepIn K (.ref f12) = true)
    (a13 : PySem.W.findIn K (.ref ca0) "__init__" = some (some (.ref f13)))
    (i13 : PySem.W.isFn K (.ref f13) = true)
    (l13 : K.lookup f13 = some ⟨oc13, od13, .func (PySem.W.fnOf "__init__" "Plan.__init__" (defArgs s_13) (defBody s_13) (defScope s_13) .none kV13 dc13 pm13 an13 cd13 ct13), sl13⟩)
    (c13 : PySem.W.codeIn K cd13 "Plan.__init__" = true)
    (k13 : PySem.W.keepIn K (.ref f13) = true)
    (a14 : PySem.W.findIn K (.ref ca0) "plain" = some (some (.ref f14)))
    (i14 : PySem.W.isFn K (.ref f14) = true)
    (l14 : K.lookup f14 = some ⟨oc14, od14, .func (PySem.W.fnOf "plain" "Plan.plain" (defArgs s_14) (defBody s_14) (defScope s_14) .none kV14 dc14 pm14 an14 cd14 ct14), sl14⟩)
    (c14 : PySem.W.codeIn K cd14 "Plan.plain" = true)
    (k14 : PySem.W.keepIn K (.ref f14) = true)
    (a15 : PySem.W.findIn K (.ref ca0) "exchanged" = some (some (.ref f15)))
    (i15 : PySem.W.isFn K (.ref f15) = true)
    (l15 : K.lookup f15 = some ⟨oc15, od15, .func (PySem.W.fnOf "exchanged" "Plan.exchanged" (defArgs s_15) (defBody s_15) (defScope s_15) .none kV15 dc15 pm15 an15 cd15 ct15), sl15⟩)
    (c15 : PySem.W.codeIn K cd15 "Plan.exchanged" = true)
    (k15 : PySem.W.keepIn K (.ref f15) = true)
    (a16 : PySem.W.findIn K (.ref ca0) "back" = some (some (.ref f16)))
    (i16 : PySem.W.isFn K (.ref f16) = true)
    (l16 : K.lookup f16 = some ⟨oc16, od16, .func (PySem.W.fnOf "back" "Plan.back" (defArgs s_16) (defBody s_16) (defScope s_16) .none kV16 dc16 pm16 an16 cd16 ct16), sl16⟩)
    (c16 : PySem.W.codeIn K cd16 "Plan.back" = true)
    (k16 : PySem.W.keepIn K (.ref f16) = true)
    (a17 : PySem.W.nsIn K mainGlobals "need_signs" = some (some (.ref f17)))
    (l17 : K.lookup f17 = some ⟨oc17, od17, .func (PySem.W.fnOf "need_signs" "need_signs" (defArgs s_17) (defBody s_17) (defScope s_17) .none kV17 dc17 pm17 an17 cd17 ct17), sl17⟩)
    (c17 : PySem.W.codeIn K cd17 "need_signs" = true)
    (k17 : PySem.W.keepIn K (.ref f17) = true)
    (a18 : PySem.W.nsIn K mainGlobals "coded" = some (some (.ref f18)))
    (l18 : K.lookup f18 = some ⟨oc18, od18, .func (PySem.W.fnOf "coded" "coded" (defArgs s_18) (defBody s_18) (defScope s_18) .none kV18 dc18 pm18 an18 cd18 ct18), sl18⟩)
    (c18 : PySem.W.codeIn K cd18 "coded" = true)
    (k18 : PySem.W.keepIn K (.ref f18) = true)
    (a19 : PySem.W.nsIn K mainGlobals "framed" = some (some (.ref f19)))
    (l19 : K.lookup f19 = some ⟨oc19, od19, .func (PySem.W.fnOf "framed" "framed" (defArgs s_19) (defBody s_19) (defScope s_19) .none kV19 dc19 pm19 an19 cd19 ct19), sl19⟩)
    (c19 : PySem.W.codeIn K cd19 "framed" = true)
    (k19 : PySem.W.keepIn K (.ref f19) = true)
    (a20 : PySem.W.nsIn K mainGlobals "first_state" = some (some (.ref f20)))
    (l20 : K.lookup f20 = some ⟨oc20, od20, .func (PySem.W.fnOf "first_state" "first_state" (defArgs s_20) (defBody s_20) (defScope s_20) .none kV20 dc20 pm20 an20 cd20 ct20), sl20⟩)
    (c20 : PySem.W.codeIn K cd20 "first_state" = true)
    (k20 : PySem.W.keepIn K (.ref f20) = true)
    (a21 : PySem.W.nsIn K mainGlobals "step" = some (some (.ref f21)))
    (l21 : K.lookup f21 = some ⟨oc21, od21, .func (PySem.W.fnOf "step" "step" (defArgs s_21) (defBody s_21) (defScope s_21) .none kV21 dc21 pm21 an21 cd21 ct21), sl21⟩)
    (c21 : PySem.W.codeIn K cd21 "step" = true)
    (k21 : PySem.W.keepIn K (.ref f21) = true)
    (a22 : PySem.W.nsIn K mainGlobals "last" = some (some (.ref f22)))
    (l22 : K.lookup f22 = some ⟨oc22, od22, .func (PySem.W.fnOf "last" "last" (defArgs s_22) (defBody s_22) (defScope s_22) .none kV22 dc22 pm22 an22 cd22 ct22), sl22⟩)
    (c22 : PySem.W.codeIn K cd22 "last" = true)
    (k22 : PySem.W.keepIn K (.ref f22) = true)
    (a23 : PySem.W.nsIn K mainGlobals "found_body" = some (some (.ref f23)))
    (l23 : K.lookup f23 = some ⟨oc23, od23, .func (PySem.W.fnOf "found_body" "found_body" (defArgs s_23) (defBody s_23) (defScope s_23) .none kV23 dc23 pm23 an23 cd23 ct23), sl23⟩)
    (c23 : PySem.W.codeIn K cd23 "found_body" = true)
    (k23 : PySem.W.keepIn K (.ref f23) = true)
    (a24 : PySem.W.nsIn K mainGlobals "body_of" = some (some (.ref f24)))
    (l24 : K.lookup f24 = some ⟨oc24, od24, .func (PySem.W.fnOf "body_of" "body_of" (defArgs s_24) (defBody s_24) (defScope s_24) .none kV24 dc24 pm24 an24 cd24 ct24), sl24⟩)
    (c24 : PySem.W.codeIn K cd24 "body_of" = true)
    (k24 : PySem.W.keepIn K (.ref f24) = true)
    (a25 : PySem.W.nsIn K mainGlobals "law" = some (some (.ref f25)))
    (l25 : K.lookup f25 = some ⟨oc25, od25, .func (PySem.W.fnOf "law" "law" (defArgs s_25) (defBody s_25) (defScope s_25) .none kV25 dc25 pm25 an25 cd25 ct25), sl25⟩)
    (c25 : PySem.W.codeIn K cd25 "law" = true)
    (k25 : PySem.W.keepIn K (.ref f25) = true)
    (na0_codes : PySem.W.findIn K (.ref ca0) "codes" = some none)
    (na0_end : PySem.W.findIn K (.ref ca0) "end" = some none)
    (na0_kind : PySem.W.findIn K (.ref ca0) "kind" = some none)
    (na0_limit : PySem.W.findIn K (.ref ca0) "limit" = some none)
    (na0_signs : PySem.W.findIn K (.ref ca0) "signs" = some none)
    (na0_top : PySem.W.findIn K (.ref ca0) "top" = some none)
    (n_abs : PySem.W.nsIn K mainGlobals "abs" = some none)
    (n_enumerate : PySem.W.nsIn K mainGlobals "enumerate" = some none)
    (n_len : PySem.W.nsIn K mainGlobals "len" = some none)
    (n_list : PySem.W.nsIn K mainGlobals "list" = some none)
    (n_range : PySem.W.nsIn K mainGlobals "range" = some none)
    (n_reversed : PySem.W.nsIn K mainGlobals "reversed" = some none)
    (n_sorted : PySem.W.nsIn K mainGlobals "sorted" = some none)
    (c_LEAST_TOP : PySem.W.nsIn K mainGlobals "LEAST_TOP" = some (some (.int 3 t_LEAST_TOP)))
    (c_MOST_BODY : PySem.W.nsIn K mainGlobals "MOST_BODY" = some (some (.int 60 t_MOST_BODY)))
    (c_MOST_SIGNS : PySem.W.nsIn K mainGlobals "MOST_SIGNS" = some (some (.int 400 t_MOST_SIGNS)))
    (c_MOST_TOP : PySem.W.nsIn K mainGlobals "MOST_TOP" = some (some (.int 16 t_MOST_TOP)))
    (c_MOST_TURNS : PySem.W.nsIn K mainGlobals "MOST_TURNS" = some (some (.int 3 t_MOST_TURNS)))
    : ∃ ev : Ev, ev.fa 25 = fa ∧ Txt K mg ev ∧ ∀ (s : Shared) (v : Value), BindsTo s (ev.fd 25) ⟨[v], []⟩ [("_law_script", v)] := by
  have e := hfa.symm.trans (PySem.W.mg_of X G a25)
  have e : f25 = fa := by
    injection e with e
    injection e with e
    exact e.symm
  subst e
  have F0 := fun_mk (st := s_0) l0 c0 k0
  have b0 := F0.binds (ps := ["_law_script", "_law_k"]) fun _ _ _ _ _ _ us hl => match us, hl with | [_, _], _ => rfl
  have F1 := fun_mk (st := s_1) l1 c1 k1
  have b1 := F1.binds (ps := ["_law_d", "_law_most"]) fun _ _ _ _ _ _ us hl => match us, hl with | [_, _], _ => rfl
  have F2 := fun_mk (st := s_2) l2 c2 k2
  have b2 := F2.binds (ps := ["_law_top", "_law_end"]) fun _ _ _ _ _ _ us hl => match us, hl with | [_, _], _ => rfl
  have F3 := fun_mk (st := s_3) l3 c3 k3
  have b3 := F3.binds (ps := ["_law_d"]) fun _ _ _ _ _ _ us hl => match us, hl with | [_], _ => rfl
  have F4 := fun_mk (st := s_4) l4 c4 k4
  have b4 := F4.binds (ps := ["_law_d", "_law_top", "_law_end", "_law_most"]) fun _ _ _ _ _ _ us hl => match us, hl with | [_, _, _, _], _ => rfl
  have F5 := fun_mk (st := s_5) l5 c5 k5
  have b5 := F5.binds (ps := ["_law_row", "_law_many"]) fun _ _ _ _ _ _ us hl => match us, hl with | [_, _], _ => rfl
  have F6 := fun_mk (st := s_6) l6 c6 k6
  have b6 := F6.binds (ps := ["_law_number_here", "_law_many"]) fun _ _ _ _ _ _ us hl => match us, hl with | [_, _], _ => rfl
  have F7 := fun_mk (st := s_7) l7 c7 k7
  have b7 := F7.binds (ps := ["row", "many"]) fun _ _ _ _ _ _ us hl => match us, hl with | [_, _], _ => rfl
  have F8 := fun_mk (st := s_8) l8 c8 k8
  have b8 := F8.binds (ps := ["number", "many"]) fun _ _ _ _ _ _ us hl => match us, hl with | [_, _], _ => rfl
  have F9 := fun_mk (st := s_9) l9 c9 k9
  have b9 := F9.binds (ps := ["way"]) fun _ _ _ _ _ _ us hl => match us, hl with | [_], _ => rfl
  have F10 := fun_mk (st := s_10) l10 c10 k10
  have b10 := F10.binds (ps := ["way"]) fun _ _ _ _ _ _ us hl => match us, hl with | [_], _ => rfl
  have F11 := fun_mk (st := s_11) l11 c11 k11
  have b11 := F11.binds (ps := ["way"]) fun _ _ _ _ _ _ us hl => match us, hl with | [_], _ => rfl
  have F12 := fun_mk (st := s_12) l12 c12 k12
  have b12 := F12.binds (ps := ["way"]) fun _ _ _ _ _ _ us hl => match us, hl with | [_], _ => rfl
  have F13 := fun_mk (st := s_13) l13 c13 k13
  have b13 := F13.binds (ps := ["self", "way"]) fun _ _ _ _ _ _ us hl => match us, hl with | [_, _], _ => rfl
  have F14 := fun_mk (st := s_14) l14 c14 k14
  have b14 := F14.binds (ps := ["self"]) fun _ _ _ _ _ _ us hl => match us, hl with | [_], _ => rfl
  have F15 := fun_mk (st := s_15) l15 c15 k15
  have b15 := F15.binds (ps := ["self", "row"]) fun _ _ _ _ _ _ us hl => match us, hl with | [_, _], _ => rfl
  have F16 := fun_mk (st := s_16) l16 c16 k16
  have b16 := F16.binds (ps := ["self", "row"]) fun _ _ _ _ _ _ us hl => match us, hl with | [_, _], _ => rfl
  have F17 := fun_mk (st := s_17) l17 c17 k17
  have b17 := F17.binds (ps := ["plan", "signs", "many"]) fun _ _ _ _ _ _ us hl => match us, hl with | [_, _, _], _ => rfl
  have F18 := fun_mk (st := s_18) l18 c18 k18
  have b18 := F18.binds (ps := ["plan", "body"]) fun _ _ _ _ _ _ us hl => match us, hl with | [_, _], _ => rfl
  have F19 := fun_mk (st := s_19) l19 c19 k19
  have b19 := F19.binds (ps := ["way", "body"]) fun _ _ _ _ _ _ us hl => match us, hl with | [_, _], _ => rfl
  have F20 := fun_mk (st := s_20) l20 c20 k20
  have b20 := F20.binds (ps := ["plan"]) fun _ _ _ _ _ _ us hl => match us, hl with | [_], _ => rfl
  have F21 := fun_mk (st := s_21) l21 c21 k21
  have b21 := F21.binds (ps := ["plan", "state", "sign"]) fun _ _ _ _ _ _ us hl => match us, hl with | [_, _, _], _ => rfl
  have F22 := fun_mk (st := s_22) l22 c22 k22
  have b22 := F22.binds (ps := ["plan", "state"]) fun _ _ _ _ _ _ us hl => match us, hl with | [_, _], _ => rfl
  have F23 := fun_mk (st := s_23) l23 c23 k23
  have b23 := F23.binds (ps := ["plan", "row"]) fun _ _ _ _ _ _ us hl => match us, hl with | [_, _], _ => rfl
  have F24 := fun_mk (st := s_24) l24 c24 k24
  have b24 := F24.binds (ps := ["way", "signs"]) fun _ _ _ _ _ _ us hl => match us, hl with | [_, _], _ => rfl
  have F25 := fun_mk (st := s_25) l25 c25 k25
  have b25 := F25.binds (ps := ["_law_script"]) fun _ _ _ _ _ _ us hl => match us, hl with | [_], _ => rfl
  refine ⟨⟨fun i => match i with | 0 => f0 | 1 => f1 | 2 => f2 | 3 => f3 | 4 => f4 | 5 => f5 | 6 => f6 | 7 => f7 | 8 => f8 | 9 => f9 | 10 => f10 | 11 => f11 | 12 => f12 | 13 => f13 | 14 => f14 | 15 => f15 | 16 => f16 | 17 => f17 | 18 => f18 | 19 => f19 | 20 => f20 | 21 => f21 | 22 => f22 | 23 => f23 | 24 => f24 | 25 => f25 | _ => 0, fun i => match i with | 0 => PySem.W.fnOf "_law_dice" "_law_dice" (defArgs s_0) (defBody s_0) (defScope s_0) .none kV0 dc0 pm0 an0 cd0 ct0 | 1 => PySem.W.fnOf "_law_off" "_law_off" (defArgs s_1) (defBody s_1) (defScope s_1) .none kV1 dc1 pm1 an1 cd1 ct1 | 2 => PySem.W.fnOf "_law_plain" "_law_plain" (defArgs s_2) (defBody s_2) (defScope s_2) .none kV2 dc2 pm2 an2 cd2 ct2 | 3 => PySem.W.fnOf "_law_size" "_law_size" (defArgs s_3) (defBody s_3) (defScope s_3) .none kV3 dc3 pm3 an3 cd3 ct3 | 4 => PySem.W.fnOf "_law_body" "_law_body" (defArgs s_4) (defBody s_4) (defScope s_4) .none kV4 dc4 pm4 an4 cd4 ct4 | 5 => PySem.W.fnOf "_law_number" "_law_number" (defArgs s_5) (defBody s_5) (defScope s_5) .none kV5 dc5 pm5 an5 cd5 ct5 | 6 => PySem.W.fnOf "_law_list" "_law_list" (defArgs s_6) (defBody s_6) (defScope s_6) .none kV6 dc6 pm6 an6 cd6 ct6 | 7 => PySem.W.fnOf "row_number" "row_number" (defArgs s_7) (defBody s_7) (defScope s_7) .none kV7 dc7 pm7 an7 cd7 ct7 | 8 => PySem.W.fnOf "row_at" "row_at" (defArgs s_8) (defBody s_8) (defScope s_8) .none kV8 dc8 pm8 an8 cd8 ct8 | 9 => PySem.W.fnOf "core" "core" (defArgs s_9) (defBody s_9) (defScope s_9) .none kV9 dc9 pm9 an9 cd9 ct9 | 10 => PySem.W.fnOf "turns" "turns" (defArgs s_10) (defBody s_10) (defScope s_10) .none kV10 dc10 pm10 an10 cd10 ct10 | 11 => PySem.W.fnOf "fault_of" "fault_of" (defArgs s_11) (defBody s_11) (defScope s_11) .none kV11 dc11 pm11 an11 cd11 ct11 | 12 => PySem.W.fnOf "need_way" "need_way" (defArgs s_12) (defBody s_12) (defScope s_12) .none kV12 dc12 pm12 an12 cd12 ct12 | 13 => PySem.W.fnOf "__init__" "Plan.__init__" (defArgs s_13) (defBody s_13) (defScope s_13) .none kV13 dc13 pm13 an13 cd13 ct13 | 14 => PySem.W.fnOf "plain" "Plan.plain" (defArgs s_14) (defBody s_14) (defScope s_14) .none kV14 dc14 pm14 an14 cd14 ct14 | 15 => PySem.W.fnOf "exchanged" "Plan.exchanged" (defArgs s_15) (defBody s_15) (defScope s_15) .none kV15 dc15 pm15 an15 cd15 ct15 | 16 => PySem.W.fnOf "back" "Plan.back" (defArgs s_16) (defBody s_16) (defScope s_16) .none kV16 dc16 pm16 an16 cd16 ct16 | 17 => PySem.W.fnOf "need_signs" "need_signs" (defArgs s_17) (defBody s_17) (defScope s_17) .none kV17 dc17 pm17 an17 cd17 ct17 | 18 => PySem.W.fnOf "coded" "coded" (defArgs s_18) (defBody s_18) (defScope s_18) .none kV18 dc18 pm18 an18 cd18 ct18 | 19 => PySem.W.fnOf "framed" "framed" (defArgs s_19) (defBody s_19) (defScope s_19) .none kV19 dc19 pm19 an19 cd19 ct19 | 20 => PySem.W.fnOf "first_state" "first_state" (defArgs s_20) (defBody s_20) (defScope s_20) .none kV20 dc20 pm20 an20 cd20 ct20 | 21 => PySem.W.fnOf "step" "step" (defArgs s_21) (defBody s_21) (defScope s_21) .none kV21 dc21 pm21 an21 cd21 ct21 | 22 => PySem.W.fnOf "last" "last" (defArgs s_22) (defBody s_22) (defScope s_22) .none kV22 dc22 pm22 an22 cd22 ct22 | 23 => PySem.W.fnOf "found_body" "found_body" (defArgs s_23) (defBody s_23) (defScope s_23) .none kV23 dc23 pm23 an23 cd23 ct23 | 24 => PySem.W.fnOf "body_of" "body_of" (defArgs s_24) (defBody s_24) (defScope s_24) .none kV24 dc24 pm24 an24 cd24 ct24 | 25 => PySem.W.fnOf "law" "law" (defArgs s_25) (defBody s_25) (defScope s_25) .none kV25 dc25 pm25 an25 cd25 ct25 | _ => PySem.W.fnOf "law" "law" (defArgs s_25) (defBody s_25) (defScope s_25) .none kV25 dc25 pm25 an25 cd25 ct25, fun i => match i with | 0 => ca0 | _ => 0⟩, rfl, ?_, fun s v => .of_eq rfl⟩
  exact ⟨F0, b0, PySem.W.mg_of X G a0, k0, F1, b1, PySem.W.mg_of X G a1, k1, F2, b2, PySem.W.mg_of X G a2, k2, F3, b3, PySem.W.mg_of X G a3, k3, F4, b4, PySem.W.mg_of X G a4, k4, F5, b5, PySem.W.mg_of X G a5, k5, F6, b6, PySem.W.mg_of X G a6, k6, F7, b7, PySem.W.mg_of X G a7, k7, F8, b8, PySem.W.mg_of X G a8, k8, F9, b9, PySem.W.mg_of X G a9, k9, F10, b10, PySem.W.mg_of X G a10, k10, F11, b11, PySem.W.mg_of X G a11, k11, F12, b12, PySem.W.mg_of X G a12, k12, F13, b13, F14, b14, F15, b15, F16, b16, F17, b17, PySem.W.mg_of X G a17, k17, F18, b18, PySem.W.mg_of X G a18, k18, F19, b19, PySem.W.mg_of X G a19, k19, F20, b20, PySem.W.mg_of X G a20, k20, F21, b21, PySem.W.mg_of X G a21, k21, F22, b22, PySem.W.mg_of X G a22, k22, F23, b23, PySem.W.mg_of X G a23, k23, F24, b24, PySem.W.mg_of X G a24, k24, F25, b25, PySem.W.mg_of X G a25, k25, ⟨pg0, hd0, po0, sa0⟩, PySem.W.mg_of X G aC0, ⟨mk0, a13, i13, kc0⟩, na0_codes, na0_end, na0_kind, na0_limit, na0_signs, na0_top, ⟨a16, i16, k16⟩, ⟨a15, i15, k15⟩, ⟨a14, i14, k14⟩, PySem.W.mg_none_of X G n_abs, PySem.W.mg_none_of X G n_enumerate, PySem.W.mg_none_of X G n_len, PySem.W.mg_none_of X G n_list, PySem.W.mg_none_of X G n_range, PySem.W.mg_none_of X G n_reversed, PySem.W.mg_none_of X G n_sorted, ⟨_, PySem.W.mg_of X G c_LEAST_TOP⟩, ⟨_, PySem.W.mg_of X G c_MOST_BODY⟩, ⟨_, PySem.W.mg_of X G c_MOST_SIGNS⟩, ⟨_, PySem.W.mg_of X G c_MOST_TOP⟩, ⟨_, PySem.W.mg_of X G c_MOST_TURNS⟩⟩
theorem walk {l : PySem.W.OpenLaw} {q : Program} {loose : List Str} {XP : (Str → Option Value) → Heap → Prop} {YP : World → Heap → Prop} {d : DefRec} {K : Params → PySem.W.Frag} (hn : l.most = some 63) (hdf : d.params.defaults = [])
    (hY : ∀ (w : World) (h : Heap), YP w h → (K w.params).In h) {pr : Nat → CF} (hl : ∀ ns : List Int, ns.length ≤ 63 → evF T pr wf 30 25 [.va (.scr ns)] = .ok (.va (.bl true), none))
    (F : ∀ (w : World) (mg : Str → Option Value) (fa : Addr) (h : Heap), (K w.params).In h → h.Ns mainGlobals mg → mg d.name = some (.ref fa) → ∃ ev : Ev, ev.fa 25 = fa ∧ Txt (K w.params) mg ev ∧ ∀ (s : Shared) (v : Value), BindsTo s (ev.fd 25) ⟨[v], []⟩ [("_law_script", v)]) :
    PySem.W.WalkO q loose XP YP l.row.toRowW d [] (fun f vs => PySem.call f vs) :=
  L2.walk_of (n := 63) (k := 62) (x := "_law_script") (CX := fun _ => CX0) (sp := fun w => spLaw (K w.params)) hn (by decide) hdf ⟨rfl, by decide, by decide⟩ hY (fun w mg fa h KX G hfa => by
    obtain ⟨ev, e, Z, hb⟩ := F w mg fa h KX G hfa
    subst e
    exact ⟨_, hb, fun base _ _ => ok_law (pr := pr) Z hl⟩) (fun _ _ a ns hl _ hS => ⟨a, ns, rfl, hS, hl, fun _ => rfl⟩) fun _ _ _ _ _ z => z
end K15

open PySem PySem.W PyProof.Rows
set_option maxRecDepth 100000 in
set_option maxHeartbeats 0 in
theorem PySem.Challenge.cw_escaperow_k15_whole_ranks_keep_order_holds : PySem.Challenge.rw_escaperow_k15_whole_ranks_keep_order.Holds := by
  w_on; o_law; k_head; (case hw => w_witness2)
  k_fill
  refine K15.walk (l := PySem.Challenge.rw_escaperow_k15_whole_ranks_keep_order) rfl rfl (fun w h Y => PySem.W.kIn_of Y) (pr := fun _ _ _ => .stuck) (fun ns h => K15.law_true (W := K15.wf) (by decide) _ 25 ns h) ?F
  case F =>
    intro w mg fa h KX G hmg
    refine' K15.all_mk KX G hmg ?aC0 ?pg0 ?hd0 ?po0 ?sa0 ?mk0 ?kc0 ?a0 ?l0 ?c0 ?k0 ?a1 ?l1 ?c1 ?k1 ?a2 ?l2 ?c2 ?k2 ?a3 ?l3 ?c3 ?k3 ?a4 ?l4 ?c4 ?k4 ?a5 ?l5 ?c5 ?k5 ?a6 ?l6 ?c6 ?k6 ?a7 ?l7 ?c7 ?k7 ?a8 ?l8 ?c8 ?k8 ?a9 ?l9 ?c9 ?k9 ?a10 ?l10 ?c10 ?k10 ?a11 ?l11 ?c11 ?k11 ?a12 ?l12 ?c12 ?k12 ?a13 ?i13 ?l13 ?c13 ?k13 ?a14 ?i14 ?l14 ?c14 ?k14 ?a15 ?i15 ?l15 ?c15 ?k15 ?a16 ?i16 ?l16 ?c16 ?k16 ?a17 ?l17 ?c17 ?k17 ?a18 ?l18 ?c18 ?k18 ?a19 ?l19 ?c19 ?k19 ?a20 ?l20 ?c20 ?k20 ?a21 ?l21 ?c21 ?k21 ?a22 ?l22 ?c22 ?k22 ?a23 ?l23 ?c23 ?k23 ?a24 ?l24 ?c24 ?k24 ?a25 ?l25 ?c25 ?k25 ?na0_codes ?na0_end ?na0_kind ?na0_limit ?na0_signs ?na0_top ?n_abs ?n_enumerate ?n_len ?n_list ?n_range ?n_reversed ?n_sorted ?c_LEAST_TOP ?c_MOST_BODY ?c_MOST_SIGNS ?c_MOST_TOP ?c_MOST_TURNS
    (case aC0 => k_is)
    (case pg0 => k_is)
    (case hd0 => k_is)
    (case po0 => k_is)
    (case sa0 => k_is)
    (case mk0 => k_is)
    (case kc0 => k_is)
    (case a0 => k_is)
    (case l0 => k_is)
    (case c0 => k_is)
    (case k0 => k_is)
    (case a1 => k_is)
    (case l1 => k_is)
    (case c1 => k_is)
    (case k1 => k_is)
    (case a2 => k_is)
    (case l2 => k_is)
    (case c2 => k_is)
    (case k2 => k_is)
    (case a3 => k_is)
    (case l3 => k_is)
    (case c3 => k_is)
    (case k3 => k_is)
    (case a4 => k_is)
    (case l4 => k_is)
    (case c4 => k_is)
    (case k4 => k_is)
    (case a5 => k_is)
    (case l5 => k_is)
    (case c5 => k_is)
    (case k5 => k_is)
    (case a6 => k_is)
    (case l6 => k_is)
    (case c6 => k_is)
    (case k6 => k_is)
    (case a7 => k_is)
    (case l7 => k_is)
    (case c7 => k_is)
    (case k7 => k_is)
    (case a8 => k_is)
    (case l8 => k_is)
    (case c8 => k_is)
    (case k8 => k_is)
    (case a9 => k_is)
    (case l9 => k_is)
    (case c9 => k_is)
    (case k9 => k_is)
    (case a10 => k_is)
    (case l10 => k_is)
    (case c10 => k_is)
    (case k10 => k_is)
    (case a11 => k_is)
    (case l11 => k_is)
    (case c11 => k_is)
    (case k11 => k_is)
    (case a12 => k_is)
    (case l12 => k_is)
    (case c12 => k_is)
    (case k12 => k_is)
    (case a13 => k_is)
    (case i13 => k_is)
    (case l13 => k_is)
    (case c13 => k_is)
    (case k13 => k_is)
    (case a14 => k_is)
    (case i14 => k_is)
    (case l14 => k_is)
    (case c14 => k_is)
    (case k14 => k_is)
    (case a15 => k_is)
    (case i15 => k_is)
    (case l15 => k_is)
    (case c15 => k_is)
    (case k15 => k_is)
    (case a16 => k_is)
    (case i16 => k_is)
    (case l16 => k_is)
    (case c16 => k_is)
    (case k16 => k_is)
    (case a17 => k_is)
    (case l17 => k_is)
    (case c17 => k_is)
    (case k17 => k_is)
    (case a18 => k_is)
    (case l18 => k_is)
    (case c18 => k_is)
    (case k18 => k_is)
    (case a19 => k_is)
    (case l19 => k_is)
    (case c19 => k_is)
    (case k19 => k_is)
    (case a20 => k_is)
    (case l20 => k_is)
    (case c20 => k_is)
    (case k20 => k_is)
    (case a21 => k_is)
    (case l21 => k_is)
    (case c21 => k_is)
    (case k21 => k_is)
    (case a22 => k_is)
    (case l22 => k_is)
    (case c22 => k_is)
    (case k22 => k_is)
    (case a23 => k_is)
    (case l23 => k_is)
    (case c23 => k_is)
    (case k23 => k_is)
    (case a24 => k_is)
    (case l24 => k_is)
    (case c24 => k_is)
    (case k24 => k_is)
    (case a25 => k_is)
    (case l25 => k_is)
    (case c25 => k_is)
    (case k25 => k_is)
    (case na0_codes => k_is)
    (case na0_end => k_is)
    (case na0_kind => k_is)
    (case na0_limit => k_is)
    (case na0_signs => k_is)
    (case na0_top => k_is)
    (case n_abs => k_is)
    (case n_enumerate => k_is)
    (case n_len => k_is)
    (case n_list => k_is)
    (case n_range => k_is)
    (case n_reversed => k_is)
    (case n_sorted => k_is)
    (case c_LEAST_TOP => k_is)
    (case c_MOST_BODY => k_is)
    (case c_MOST_SIGNS => k_is)
    (case c_MOST_TOP => k_is)
    (case c_MOST_TURNS => k_is)
#print axioms PySem.Challenge.cw_escaperow_k15_whole_ranks_keep_order_holds

