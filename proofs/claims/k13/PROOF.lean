import PyProof.Rows.All
import Wide.All
import OpenK.AllK
import Wide.FinOn
import HandS.ForMost
import HandS.RevTup
import HandS.Rev
import HandS.Deep
import KE.DataFind
import KE.DatumIndex
import HandS.SetFor
import HandS.Strs
import HandS.SortInts
import KE.GoesMore
import KE.KDictCopyH
import KE.KDictWalk
import KE.KDictDisplayH
import HandS.Dict
import HandS.Iter
import HandS.Walk
import HandS.Conv
import HandS.TupAny
import HandS.Evl
import HandS.Nested
import KE.SortData
import KE.LtData
import HandS.IsInst
import HandS.More
import HandS.Comp
import HandS.Ends
import PySem.Challenge.RW_escaperow_k13_whole_rooms_and_bodies
set_option Elab.async false
set_option linter.all false
set_option maxRecDepth 100000
set_option maxHeartbeats 0
/-! Pf0: rules that the layer lacks: list(reversed(a list)); xs.extend(a tuple) -/
namespace RT
open PySem PyProof.Rows
section
variable {prog : Program} {w : World} {A : Around} {E : Value → Shared → Prop} {s : Shared} {R : Result → Shared → Prop}
theorem list_init_rev {it l S : Addr} {items : Array Value} (hh : A.handled = none) (hit : s.heap.IsRevIter it l ((items.size : Int) - 1)) (hl : s.heap.IsList l items) (hne : l ≠ it) (hn : items.size ≤ sizeLine) (hSi : S ≠ it) (hSl : S ≠ l)
    (hS : s.heap.get? S = some { cls := .type "list", data := .seq #[] })
    (hR : ∀ h' tk acc' c', (∀ b o, b ≠ S → b ≠ it → s.heap.get? b = some o → h'.get? b = some o) → h'.get? S = some { cls := .type "list", dict := none, data := .seq acc' c', slots := #[] } →
      ItemsOf (fun i v => items[items.size - 1 - i]? = some v) acc' items.size → R (.ok (.ret .none)) { s with heap := h', toks := tk }) :
    wpAny (model prog w) A.in1 (Builtin.«list.__init__» ⟨[.ref S, .ref it], []⟩)
      (fun fin s' => match fin with | .done f => R (.ok f) s' | .again c' => c'.quiet = true ∧ codeAny (model prog w) A c' R s') (fun e s' => R (.error e) s') s := by
  have W := (Walks.listRev (prog := prog) (w := w) (A := A.in1) hh it l hne items).toS
  have hSf : S ∉ [it, l] := by simp only [List.mem_cons, List.not_mem_nil, or_false, not_or]; exact ⟨hSi, hSl⟩
  show wpAny _ _ (do let old ← Builtin.List.listItems (.ref S); Builtin.List.listUpdate (.ref S) (fun _ => #[]); letGo old.toList.reverse; Builtin.List.listExtendWith (.ref S) (.ref it) .none) _ _ s
  refine wpAny_bind ?_
  unfold Builtin.List.listItems
  refine wpAny_bind (wpAny_seqItems hS rfl (wpAny_pure ?_))
  show wpAny _ _ (updateSeq S (fun _ => #[]) >>= fun _ => letGo (#[] : Array Value).toList.reverse >>= fun _ => Builtin.List.listExtendWith (.ref S) (.ref it) .none) _ _ s
  refine wpAny_bind (wpAny_updateSeq hS rfl ?_)
  have hS₂ := Heap.get?_update_self (Obj.mapSeq (fun _ => (#[] : Array Value))) hS rfl
  have oth : ∀ b o, b ≠ S → s.heap.get? b = some o → (s.heap.update S (Obj.mapSeq (fun _ => (#[] : Array Value)))).get? b = some o :=
    fun b o hb e => (Heap.get?_update_other _ _ (Ne.symm hb)).trans e
  refine wpAny_bind (wpAny_letGo ?_)
  generalize hs2 : ({ s with heap := s.heap.update S (Obj.mapSeq (fun _ => (#[] : Array Value))) } : Shared) = s2 at hS₂ ⊢
  have e2 : s2.heap = s.heap.update S (Obj.mapSeq (fun _ => (#[] : Array Value))) := by rw [← hs2]
  have oth2 : ∀ b o, b ≠ S → s.heap.get? b = some o → s2.heap.get? b = some o := by rw [e2]; exact oth
  have hit1 : s2.heap.IsRevIter it l ((items.size : Int) - 1) := hit.at fun o e => oth2 it o (Ne.symm hSi) e
  have hl1 : s2.heap.IsList l items := hl.at fun o e => oth2 l o (Ne.symm hSl) e
  have hT : s2.TypeIs (.ref it) "list_reverseiterator" := Heap.IsRevIter.typeIs (s := s2) hit1
  have h1 : Builtin.List.listSameRef (.ref S) (.ref it) = false := by simp [Builtin.List.listSameRef, hSi]
  unfold Builtin.List.listExtendWith
  refine wpAny_bind (wpAny_typeOf hT ?_)
  rw [if_neg (by rw [h1]; decide)]
  refine wpAny_bind (wpAny_pyIter_revIter (s := s2) hit1 ?_)
  refine wpAny_bind (wpAny_holding ?_)
  unfold Builtin.List.listLengthHint
  refine wpAny_bind (wpAny_specialOf hT nolen_lri ?_)
  show wpAny _ A.in1 (specialOf (Value.ref it) (Str.ofString "__length_hint__") >>= _) _ _ _
  refine wpAny_bind (wpAny_specialOf hT hint_lri ?_)
  generalize hid : ("list_reverseiterator.__length_hint__" : String) = id0
  wp_delta
  rw [show splitId id0 = some ("list_reverseiterator", "__length_hint__") from by subst hid; decide +kernel]
  subst hid
  refine wpAny_bind (wpAny_isInstance (b := true) hT (by rw [isSubtype_type]; kernel_rfl) ?_)
  refine wpAny_pure ?_
  rw [if_neg (by decide)]
  have e0 : ((items.size : Nat) : Int) - 1 - ((0 : Nat) : Int) = (items.size : Int) - 1 := by omega
  have hS3 : s2.heap.get? S = some { cls := .type "list", data := .seq #[] 1 } ∨ ∃ c, s2.heap.get? S = some { cls := .type "list", dict := none, data := .seq #[] c, slots := #[] } := .inr (by
    rw [e2]
    exact ⟨_, Heap.get?_update_self (Obj.mapSeq (fun _ => (#[] : Array Value))) hS rfl⟩)
  obtain ⟨c, hS3⟩ : ∃ c, s2.heap.get? S = some { cls := .type "list", dict := none, data := .seq #[] c, slots := #[] } := by
    rw [e2]
    exact ⟨_, Heap.get?_update_self (Obj.mapSeq (fun _ => (#[] : Array Value))) hS rfl⟩
  refine wpAny_pure ⟨plainId_quiet F.plain_extend_loop _, codeAny_extend_loopS W hn _ hSf _ items.size 0 _ _ c rfl (Nat.zero_le _) ⟨Nat.zero_le _, by rw [e0]; exact hit1, hl1⟩ hS3 (ItemsOf.nil _) fun s' acc' c' hm hS' hacc => ?_⟩
  rw [Moved.eq_with hm]
  have : ({ s2 with heap := s'.heap, toks := s'.toks } : Shared) = { s with heap := s'.heap, toks := s'.toks } := by rw [← hs2]
  rw [this]
  refine hR s'.heap s'.toks acc' c' (fun b o hb hb2 e => hm.heap b o (fun hmem => ?_) (oth2 b o hb e)) hS' hacc
  rcases List.mem_cons.mp hmem with e' | hmem
  · exact hb e'
  · exact hb2 (List.mem_singleton.mp hmem)
theorem call_list_rev {it l : Addr} {items : Array Value} {Q : Value → Shared → Prop} (hh : A.handled = none) (hit : s.heap.IsRevIter it l ((items.size : Int) - 1)) (hl : s.heap.IsList l items) (hne : l ≠ it) (hn : items.size ≤ sizeLine)
    (hQ : ∀ h' tk acc' c', (∀ b o, b ≠ it → s.heap.get? b = some o → h'.get? b = some o) → h'.get? s.heap.objs.size = some { cls := .type "list", dict := none, data := .seq acc' c', slots := #[] } →
      ItemsOf (fun i v => items[items.size - 1 - i]? = some v) acc' items.size → Q (.ref s.heap.objs.size) { s with heap := h', toks := tk }) :
    wpAny (model prog w) A (call (.type "list") [.ref it]) Q E s := by
  obtain ⟨oi, hoi, _⟩ := id hit
  obtain ⟨ol, hol, _⟩ := id hl
  have hSi : s.heap.objs.size ≠ it := Nat.ne_of_gt (Heap.lt_size hoi)
  have hSl : s.heap.objs.size ≠ l := Nat.ne_of_gt (Heap.lt_size hol)
  refine callType_codes (Q₁ := fun obj s₁ => obj = .ref s.heap.objs.size ∧ s₁ = { s with heap := s.heap.push { cls := .type "list", data := .seq #[] } }) F.called_list (F.typeCall_list_1 _) F.entry_list_init
    (code_list_new _ ⟨rfl, rfl⟩) fun obj s₁ h₁ => ?_
  obtain ⟨rfl, rfl⟩ := h₁
  have hS : (s.heap.push { cls := .type "list", data := .seq #[] }).get? s.heap.objs.size = some { cls := .type "list", data := .seq #[] } := Heap.get?_push_size _ rfl
  refine ⟨⟨_, hS, rfl⟩, F.args_list_init_2 _ _, list_init_rev (A := A.in1) hh (hit.at fun o e => Heap.get?_push_of_some _ e) (hl.push _) hne hn hSi hSl hS fun h' tk acc' c' hk hS' hacc => ?_⟩
  exact ⟨rfl, hQ h' tk acc' c' (fun b o hb e => hk b o (Nat.ne_of_lt (Heap.lt_size e)) hb (Heap.get?_push_of_some _ e)) hS' hacc⟩
end
end RT
namespace L2
open PySem PySem.Spec PyProof.Rows RT
/-- list(reversed(x)), x a list: a new list -/
def tLstRev (K : PySem.W.Frag) (te : TE) : TE := fun σ H Q => te σ H fun v H1 => ∃ (a : Addr) (xs : List V), v = .ref a ∧ SqL K H1 a xs ∧ ∀ q, H1 q = none → Q (.ref q) (upd H1 q (.lst xs.reverse))
theorem pe_lstRev {X : Cx} {e : Expr} {te : TE} {p p2 pos pos2 : Pos} (hc : X.calm = true) (hg : Gl X "list") (hm : X.mg "list" = none) (hg2 : Gl X "reversed") (hm2 : X.mg "reversed" = none) (he : PE X e te)
    (hs : starEach [e] X.env = (false, eval e X.env) :: starEach [] X.env := by rfl)
    (hs2 : starEach [.Call (.Name "reversed" p2) [e] [] pos2] X.env = (false, eval (.Call (.Name "reversed" p2) [e] [] pos2) X.env) :: starEach [] X.env := by rfl) :
    PE X (.Call (.Name "list" p) [.Call (.Name "reversed" p2) [e] [] pos2] [] pos) (tLstRev X.K te) := by
  refine ⟨fun pins s σ H Q I h => ?_⟩
  refine Call_ (ld_blt I hg hm boot_list (PyProof.Rows.callWith_type1 (args_cons (Call_ (ld_blt I hg2 hm2 PyProof.Rows.boot_reversed (PyProof.Rows.callWith_type1 (args_cons (thn (he.run pins s σ H _ I h) fun u s1 ⟨v, H1, I1, r1, q1⟩ => args_nil ?_) hs) hs rfl))) hs2) hs2 rfl))
  obtain ⟨a, xs, ev, hq, q⟩ := q1
  subst ev
  obtain rfl : u = Value.ref a := r1
  obtain ⟨its, rv, p', hz⟩ := I1.list hq
  refine call_reversed_list p'.isList (args_nil ?_)
  have k0 : ∀ b o, s1.heap.get? b = some o → (s1.heap.push (revObj a ((its.toArray.size : Int) - 1))).get? b = some o := fun b o e => Heap.get?_push_of_some _ e
  have I2 : Inv X pins σ H1 { s1 with heap := s1.heap.push (revObj a ((its.toArray.size : Int) - 1)) } := I1.kept (t' := s1.toks) k0
  obtain ⟨f0, f1, f2, f3, f4, f5⟩ := I1.fpOk (H' := H1) (b := s1.heap.objs.size) (Nat.le_refl _) (I1.hok.fresh (Nat.le_refl _))
  have hl := p'.isList
  obtain ⟨ol, hol, _⟩ := id hl
  have hne : a ≠ s1.heap.objs.size := Nat.ne_of_lt (Heap.lt_size hol)
  have hn : its.toArray.size ≤ sizeLine := by rw [List.size_toArray, ← rv.length]; exact hz
  refine call_list_rev (s := { s1 with heap := s1.heap.push (revObj a ((its.toArray.size : Int) - 1)) }) (I1.ok.hd hc) ⟨_, Heap.get?_push_size _ rfl, rfl, rfl⟩ (hl.push _) hne hn fun h' tk acc c' hk hS' hi => ?_
  have hpn : H1 (s1.heap.push (revObj a ((its.toArray.size : Int) - 1))).objs.size = none := I2.hok.fresh (Nat.le_refl _)
  refine ⟨.ref _, _, I2.turnedNew (t' := tk) (h' := h') (ch := [s1.heap.objs.size]) (T := (s1.heap.push (revObj a ((its.toArray.size : Int) - 1))).objs.size) (ob := .lst xs.reverse)
    (fun b o hb e => hk b o (fun z => hb (by rw [z]; exact List.mem_cons_self)) e) (fun b hb => ?_) (Nat.le_refl _) ?_, rfl, q _ hpn⟩
  · have e : b = s1.heap.objs.size := by simpa using hb
    subst e
    exact ⟨f0, f1, f2, f3, f4, f5⟩
  · refine ⟨by rw [List.length_reverse]; exact hz, acc.toList, c', vals_rev rv hi, ?_⟩
    rw [Array.toArray_toList]
    exact hS'

theorem list_extend_tupleA (l : Addr) (items : Array Value) (n : Nat) (b : Addr) (items2 : Array Value) (n2 : Nat) (dd : Option Addr) (sl : Array (Option Value)) (hs0 : ¬(!items.isEmpty && Builtin.List.listTooLong (items.size + items2.size)) = true) (hs1 : items.size ≤ sizeLine) (hs2 : items.size + items2.size ≤ sizeLine + 1 := by seq_fits) :
    Meets (Builtin.«list.extend» ⟨[.ref l, .ref b], []⟩) (fun _ R s => s.heap.get? l = some { cls := .type "list", dict := none, data := .seq items n, slots := #[] } ∧ s.heap.get? b = some { cls := .type "tuple", dict := dd, data := .seq items2 n2, slots := sl } ∧ R (.ok (.ret Value.none)) { s with heap := s.heap.update l (Obj.mapSeq fun x => x ++ items2), toks := s.toks }) :=
  .of_wp fun prog w A R s h => by
    obtain ⟨hp, g, d, tk, os⟩ := s; obtain ⟨hl, hb, h⟩ := h; have f1 := AutoSeq1.idx_int; have f2 := AutoSeq1.sub_tuple_tuple; have f3 := AutoSeq1.sub_list_list; have f4 := AutoSeq1.sub_tuple_list; have f5 := AutoSeq1.sub_list_tuple;
    have hz' : (items ++ items2).size ≤ sizeLine + 1 := by rw [Array.size_append]; exact hs2
    wp_walk using (wpAny_updateSeq hl rfl (hz := hs1) (_hz' := hz')), AutoSeq1.wpAny_loadPart' hl, AutoSeq1.wpAny_loadPart' hb; exact ⟨_, rfl, h⟩
/-- xs.extend(t), t a tuple -/
def rExtendT (K : PySem.W.Frag) : V → List V → Hp → VK → Prop := fun x vs H Q => ∃ l b xs zs, x = .ref l ∧ vs = [.ref b] ∧ H l = some (.lst xs) ∧ SqT K H b zs ∧ xs.length + zs.length ≤ sizeLine ∧ Q .non (upd H l (.lst (xs ++ zs)))
theorem mt_extendT {X : Cx} : MtM X "list.extend" (rExtendT X.K) := by
  intro pins s σ H x vs v us Q I rx rv h
  obtain ⟨l, b, xs, zs, rfl, rfl, hH, hB, hz, q⟩ := h
  cases rx
  obtain ⟨u, rfl, ru⟩ := rv.one
  cases ru
  obtain ⟨z, its, n, r, hl, e⟩ := I.lstM hH
  obtain ⟨its2, r2, ⟨o2, ho2, hc2, n2, hd2⟩, hl2⟩ := I.tuple hB
  have hle := r2.length
  have hsz : its.toArray.size + its2.toArray.size ≤ sizeLine := by rw [List.size_toArray, List.size_toArray]; omega
  have hlong : ¬ (!its.toArray.isEmpty && Builtin.List.listTooLong (its.toArray.size + its2.toArray.size)) = true := by
    rw [notLongL hsz, Bool.and_false]
    exact Bool.false_ne_true
  obtain ⟨c2, d2, da2, sl2⟩ := o2
  simp only at hc2 hd2
  subst hc2 hd2
  refine call_meets F.slot_list_extend ⟨_, e, rfl⟩ F.entry_list_extend (F.args_list_extend_2 _ _)
    (list_extend_tupleA l its.toArray n b its2.toArray n2 d2 sl2 hlong (by rw [List.size_toArray]; omega) (by omega)) ⟨e, ho2, ?_⟩
  refine ⟨.non, _, I.lset (its' := its ++ its2) hH e (by simp) (r.append r2) ?_, rfl, q⟩
  rw [List.length_append]
  omega

/-! ### == , !=, in, index, remove of data of any depth (plain: no dict within) -/
section
variable {X : Cx}
def rEqP (K : PySem.W.Frag) : R2 := fun x y H Q => ∃ d e, Dp K H x d ∧ Dp K H y e ∧ d.plain = true ∧ e.plain = true ∧ d.depth ≤ 60 ∧ Q (.bl (PyData.eqv d e)) H
def rNeP (K : PySem.W.Frag) : R2 := fun x y H Q => ∃ d e, Dp K H x d ∧ Dp K H y e ∧ d.plain = true ∧ e.plain = true ∧ d.depth ≤ 60 ∧ Q (.bl (!PyData.eqv d e)) H
theorem op_eqP (hu : X.A.units + 64 < cLine) : OpR X (compareOp .Eq) (rEqP X.K) := by
  intro pins s σ H x y v u Q I rx ry h
  obtain ⟨d, e, hd, he, sd, se, hz, q⟩ := h
  obtain ⟨as, r1⟩ := Dp.reads I d x v hd rx
  obtain ⟨bs, r2⟩ := Dp.reads I e y u he ry
  have hm := Nat.min_le_left d.depth e.depth
  exact PySem.SeqAt.eq_plain r1 r2 sd se (by omega) ⟨.bl _, H, I, rfl, q⟩
theorem op_neP (hu : X.A.units + 64 < cLine) : OpR X (compareOp .NotEq) (rNeP X.K) := by
  intro pins s σ H x y v u Q I rx ry h
  obtain ⟨d, e, hd, he, sd, se, hz, q⟩ := h
  obtain ⟨as, r1⟩ := Dp.reads I d x v hd rx
  obtain ⟨bs, r2⟩ := Dp.reads I e y u he ry
  have hm := Nat.min_le_left d.depth e.depth
  exact PySem.SeqAt.ne_plain r1 r2 sd se (by omega) ⟨.bl _, H, I, rfl, q⟩
/-- x in ys, x not in ys: ys a list or a tuple -/
def rInP (K : PySem.W.Frag) (neg : Bool) : R2 := fun x y H Q => ∃ d ds, Dp K H x d ∧ (Dp K H y (.list ds) ∨ Dp K H y (.tuple ds)) ∧ d.plain = true ∧ PyData.plainAll ds = true ∧ d.depth ≤ 60 ∧ Q (.bl (neg ^^ ds.any fun z => PyData.eqv z d)) H
theorem op_inP (hu : X.A.units + 64 < cLine) : OpR X (compareOp .In) (rInP X.K false) := by
  intro pins s σ H x y v u Q I rx ry h
  obtain ⟨d, ds, hd, he, sd, se, hz, q⟩ := h
  obtain ⟨as, r1⟩ := Dp.reads I d x v hd rx
  have hm := Nat.min_le_right (PyData.depthAll ds) d.depth
  rw [Bool.false_xor] at q
  rcases he with he | he
  · obtain ⟨bs, r2⟩ := Dp.reads I (.list ds) y u he ry
    exact PySem.SeqAt.in_list_data r2 r1 se sd (by omega) ⟨.bl _, H, I, rfl, q⟩
  · obtain ⟨bs, r2⟩ := Dp.reads I (.tuple ds) y u he ry
    exact PySem.SeqAt.in_tuple_data r2 r1 se sd (by omega) ⟨.bl _, H, I, rfl, q⟩
theorem op_notInP (hu : X.A.units + 64 < cLine) : OpR X (compareOp .NotIn) (rInP X.K true) := by
  intro pins s σ H x y v u Q I rx ry h
  obtain ⟨d, ds, hd, he, sd, se, hz, q⟩ := h
  obtain ⟨as, r1⟩ := Dp.reads I d x v hd rx
  have hm := Nat.min_le_right (PyData.depthAll ds) d.depth
  rw [Bool.true_xor] at q
  rcases he with he | he
  · obtain ⟨bs, r2⟩ := Dp.reads I (.list ds) y u he ry
    exact PySem.SeqAt.notIn_list_data r2 r1 se sd (by omega) ⟨.bl _, H, I, rfl, q⟩
  · obtain ⟨bs, r2⟩ := Dp.reads I (.tuple ds) y u he ry
    exact PySem.SeqAt.notIn_tuple_data r2 r1 se sd (by omega) ⟨.bl _, H, I, rfl, q⟩
/-- xs.index(x), x in xs -/
def rIndexP (K : PySem.W.Frag) : V → List V → Hp → VK → Prop := fun x xs H Q => ∃ (a : Addr) (y : V) (d : PyData) (ds : List PyData) (j : Nat), x = V.ref a ∧ xs = [y] ∧ Dp K H (V.ref a) (.list ds) ∧ Dp K H y d ∧
  PyData.plainAll ds = true ∧ d.plain = true ∧ d.depth ≤ 60 ∧ PySem.SeqAt.dataPlace ds d = some j ∧ Q (.int (j : Nat)) H
theorem mt_indexP (hu : X.A.units + 64 < cLine) : MtR X "list.index" (rIndexP X.K) := by
  intro pins s σ H x xs v us Q I rx rxs h
  obtain ⟨a, y, d, ds, j, rfl, rfl, hl, hy, sl, sd, hz, hp, q⟩ := h
  cases rx
  cases rxs with
  | cons ry rt =>
    rename_i uy ut
    cases rt
    obtain ⟨bs, r1⟩ := Dp.reads I d y uy hy ry
    cases hl with
    | lst hs ha =>
      obtain ⟨its, rv, ⟨⟨cls, dd, data, sls⟩, n, ho, hc, hdn, hdt⟩, hlen⟩ := I.list hs
      simp only at hc hdt
      subst hc hdt
      obtain ⟨as, h4⟩ := Dp.readsAll I ds _ its ha rv
      have h4' : ReadsAll s.heap its.toArray.toList ds as := h4
      obtain ⟨hj, hit, hno⟩ := PySem.SeqAt.hit_at h4' sl hp
      have hm := Nat.min_le_right (PyData.depthAll ds) d.depth
      have hvl := rv.length
      have hsl := sizeLine_eq
      have hsz : its.toArray.size = its.length := List.size_toArray
      refine call_meets PySem.F.slot_list_index ⟨_, ho, rfl⟩ PySem.F.entry_list_index (PySem.F.args_list_index_2 _ _)
        (SeqAt.list_indexAt a its.toArray n dd sls uy (fun u => PyData.eqv (SeqAt.readOf s.heap u) d) j hj (by omega) hit hno) ⟨ho, PySem.SeqAt.items_plain (A := X.A) h4' r1 sl sd (by omega), ?_⟩
      exact ⟨.int (j : Nat), H, I.tok _, ⟨_, rfl⟩, q⟩
/-- xs.remove(x), x in xs -/
def rRemP (K : PySem.W.Frag) : V → List V → Hp → VK → Prop := fun x vs H Q => ∃ (a : Addr) (xs : List V) (y : V) (d : PyData) (ds : List PyData) (j : Nat), x = V.ref a ∧ vs = [y] ∧ H a = some (.lst xs) ∧ DpAll K H xs ds ∧ Dp K H y d ∧
  PyData.plainAll ds = true ∧ d.plain = true ∧ d.depth ≤ 60 ∧ PySem.SeqAt.dataPlace ds d = some j ∧ Q .non (upd H a (.lst (xs.eraseIdx j)))
theorem mt_remP (hu : X.A.units + 64 < cLine) : MtM X "list.remove" (rRemP X.K) := by
  intro pins s σ H x xs v us Q I rx rxs h
  obtain ⟨a, xs, y, d, ds, j, rfl, rfl, hH, ha, hy, sl, sd, hz, hp, q⟩ := h
  cases rx
  obtain ⟨u, rfl, ru⟩ := rxs.one
  obtain ⟨bs, r1⟩ := Dp.reads I d y u hy ru
  obtain ⟨z, its, n, r, hl, e⟩ := I.lstM hH
  obtain ⟨as, h4⟩ := Dp.readsAll I ds _ its ha r
  have h4' : ReadsAll s.heap its.toArray.toList ds as := h4
  have hm := Nat.min_le_right (PyData.depthAll ds) d.depth
  refine PySem.SeqAt.remove_list_data (l := a) (vs := its.toArray) (xs := ds) (d := d) (j := j) ⟨_, e, rfl, _, rfl⟩ h4' r1 sl sd (by omega) hp (by rw [List.size_toArray]; omega) ?_
  refine ⟨.non, _, I.lset (its' := its.eraseIdx j) hH e ?_ (r.eraseIdx j) ?_, rfl, q⟩
  · show its.toArray.eraseIdxIfInBounds j = (its.eraseIdx j).toArray
    rw [List.eraseIdxIfInBounds_toArray]
  · have := len_erase xs j
    omega
end
end L2

/-! Pfa: what the library tells of lists, told of tuples (sorted, enumerate), and of set(list) -/
namespace Pf
open PySem PySem.Spec PyProof.Rows L2
section
variable {prog : Program} {w : World} {A : Around} {E : Value → Shared → Prop} {s : Shared}
/-- collect of a tuple -/
theorem gather_tup {tp : Addr} {ws : List Value} {Q : List Value → Shared → Prop} (ht : s.heap.IsTuple tp ws.toArray) (hz : ws.length ≤ sizeLine)
    (q : Q ws { s with heap := (s.heap.push (seqObj "list" #[] 0)).update s.heap.objs.size (Obj.mapSeq (· ++ ws.toArray)) }) : wpAny (model prog w) A (collect (.ref tp)) Q E s := by
  obtain ⟨ob, hob, hcl, k, hda⟩ := id ht
  unfold collect; refine wpAny_bind (wpAny_runValue (codeAny_builtin entry_proto_collect' ?_))
  show wpAny _ _ (do again (.builtin "list.__iadd__" ⟨[← newList [], .ref tp], []⟩)) _ _ s
  refine wpAny_bind (wpAny_newList (wpAny_pure ⟨Code.quiet_builtin _ (by decide +kernel), codeAny_builtin entry_list_iadd' ?_⟩))
  show wpAny _ _ (Builtin.List.listExtendWith (.ref s.heap.objs.size) (.ref tp) (.ref s.heap.objs.size)) _ _ { s with heap := s.heap.push (seqObj "list" #[] 0) }
  unfold Builtin.List.listExtendWith
  have h2 : (s.heap.push (seqObj "list" #[] 0)).get? tp = some ob := Heap.get?_push_of_some _ hob
  have h3 : (s.heap.push (seqObj "list" #[] 0)).get? s.heap.objs.size = some (seqObj "list" #[] 0) := Heap.get?_push_size _ rfl
  refine wpAny_bind (wpAny_typeOf (T := "tuple") ⟨ob, h2, hcl⟩ ?_); rw [if_pos (by rw [show (Value.type "tuple" == Value.type "tuple") = true from rfl]; simp)]
  refine wpAny_bind (listItems_at h2 hda ?_); refine wpAny_bind (listItems_at (xs := #[]) (n := 0) h3 rfl ?_); rw [if_neg (by simp)]
  refine wpAny_bind (listUpdate_at (xs := #[]) (n := 0) h3 rfl ?_ (Nat.zero_le _) (by show (#[] ++ ws.toArray).size ≤ sizeLine + 1; simp only [Array.size_append, List.size_toArray, List.length_nil]; omega)); refine wpAny_pure ?_
  refine wpAny_bind (m := load s.heap.objs.size) (wpAny_load (get?_update_seq h3 _) ?_)
  show wpAny _ _ (pure ((#[] : Array Value) ++ ws.toArray).toList) Q E _
  have e : ((#[] : Array Value) ++ ws.toArray).toList = ws := by simp
  rw [e]; exact wpAny_pure q
/-- sorted of a tuple -/
theorem sorted_ordT {tp : Addr} {ws : List Value} {lt : Value → Value → Bool} {Q : Value → Shared → Prop} (O : SrtO.Swo lt) (ht : s.heap.IsTuple tp ws.toArray) (hz : ws.length ≤ sizeLine)
    (hS : 2 ≤ ws.length → ∀ (h₁ : Heap) (a : Addr), h₁.get? a = some (seqObj "list" ws.toArray 0) → (∀ b o, s.heap.get? b = some o → b ≠ a ∧ h₁.get? b = some o) → SrtO.SortableO prog w A.in1.in1 { s with heap := h₁ } a ws lt)
    (q : ∀ out : List Value, SrtO.Srtd lt out → SrtO.Stb lt out ws → Q (.ref (s.heap.objs.size + 1)) { s with heap := sortedAll s.heap ws out.toArray }) :
    wpAny (model prog w) A (call (.builtin "sorted") [.ref tp]) Q E s := by
  refine Calls.call_function_entry kind_sorted plain_sorted entry_sorted (args_sorted1 _) ?_; unfold Builtin.«sorted»
  refine wpAny_bind (m := checkCount "sorted" 1 1 _) (wpAny_pure ?_); refine wpAny_bind (gather_tup ht hz ?_); refine wpAny_bind (wpAny_newList ?_ hz)
  generalize hg : (s.heap.push (seqObj "list" #[] 0)).update s.heap.objs.size (Obj.mapSeq (· ++ ws.toArray)) = g
  have gz : g.objs.size = s.heap.objs.size + 1 := by rw [← hg, Heap.size_update, Heap.size_push]
  have gk : ∀ b o, s.heap.get? b = some o → g.get? b = some o := fun b o e => by
    rw [← hg, Heap.get?_update_ne _ _ _ _ (Nat.ne_of_lt (Heap.lt_size e))]; exact Heap.get?_push_of_some _ e
  have gL : (g.push (seqObj "list" ws.toArray 0)).get? (s.heap.objs.size + 1) = some (seqObj "list" ws.toArray 0) := by rw [← gz]; exact Heap.get?_push_size _ rfl
  have keep : ∀ b o, s.heap.get? b = some o → b ≠ s.heap.objs.size + 1 ∧ (g.push (seqObj "list" ws.toArray 0)).get? b = some o := fun b o e => ⟨Nat.ne_of_lt (Nat.lt_succ_of_lt (Heap.lt_size e)), Heap.get?_push_of_some _ (gk b o e)⟩
  show wpAny _ _ _ _ _ { s with heap := g.push (seqObj "list" ws.toArray 0) }
  rw [gz]
  refine wpAny_bind (wpAny_holding (wpAny_call_entry slot_list_sort ⟨_, gL, rfl⟩ entry_list_sort (SrtO.list_sort_ord O gL hz (fun h2 => hS h2 _ _ gL keep) fun out hs hb => ⟨_, rfl, ?_⟩) (args_list_sort _)))
  have z := q out hs hb
  unfold sortedAll at z; rw [hg] at z; exact wpAny_pure ⟨_, rfl, z⟩
end
/-- sorted(t), t a tuple of ints -/
def rSortedIT (K : PySem.W.Frag) : List V → Hp → VK → Prop := fun vs H Q => ∃ (a : Addr) (ns : List Int), vs = [V.ref a] ∧ SqT K H a (ns.map V.int) ∧
  ∀ (ms : List Int) (p : Addr), ms.Perm ns → ms.Pairwise (· ≤ ·) → H p = none → Q (.ref p) (upd H p (.lst (ms.map V.int)))
section
variable {X : Cx}
theorem cr_sortedIT : CallR X (.builtin "sorted") (rSortedIT X.K) := by
  intro pins s σ H vs us Q I r h
  obtain ⟨a, ns, rfl, hs, q⟩ := h
  obtain ⟨its, rv, pl, hz⟩ := I.tuple hs
  rw [Vals.ref1 r]
  have hi := rv.ints
  refine sorted_ordT SrtO.swo_int pl (by rw [← rv.length]; exact hz) (fun h2 _ _ _ _ => SrtO.ints_sortable hi h2) fun out h1 h2 => ?_
  obtain ⟨k1, k2, k3⟩ := SrtO.ints_out hi h1 h2
  obtain ⟨ep, he⟩ := PyProof.Rows.sortedAll_at s.heap its out.toArray
  have hl : ((out.map SrtO.iv).map V.int).length ≤ sizeLine := by
    have e := k2.length_eq; rw [List.length_map] at hz ⊢; rw [e]; exact hz
  refine ⟨.ref _, upd H (s.heap.objs.size + 1) (.lst ((out.map SrtO.iv).map V.int)), I.laid (t' := s.toks) (fun _ _ => PyProof.Rows.sortedAll_old) (Nat.le_succ _) ⟨hl, out, ep, vals_of_ints k1, he⟩, rfl, ?_⟩
  exact q _ _ k2 k3 (I.hok.fresh (Nat.le_succ _))
end

/-! ### enumerate(t), t a tuple -/
section
variable {prog : Program} {w : World} {A : Around} {E : Value → Shared → Prop} {s : Shared}
theorem enumT_made (tp : Addr) (xs : Array Value) (k : Nat) (dt : Option Addr) (so : Array (Option Value)) :
    Meets (Builtin.«enumerate.__new__» ⟨[.type "enumerate", .ref tp], []⟩) (fun _ R s => s.heap.get? tp = some { cls := .type "tuple", dict := dt, data := .seq xs k, slots := so } ∧
      R (.ok (.ret (.ref (s.heap.push { cls := .type "tuple_iterator", data := .fields #[.ref tp, .int 0 0] }).objs.size))) { s with heap := (s.heap.push { cls := .type "tuple_iterator", data := .fields #[.ref tp, .int 0 0] }).push { cls := .type "enumerate", data := .fields #[.none, .bool false, .ref s.heap.objs.size, rawInt 0, .none, .none] } }) :=
  .of_wp fun prog w A R s h => by
    obtain ⟨hp, g, d, tk, os⟩ := s; obtain ⟨ht, h⟩ := h
    have hsub := sub_enumerate
    have hT : Heap.IsTuple (Shared.heap ⟨hp, g, d, tk, os⟩) tp xs := ⟨_, ht, rfl, k, rfl⟩
    wp_walk using AutoSeq1.wpAny_loadPart' ht
    refine wpAny_stack_any fun st => wpAny_pure ?_
    split
    · rename_i c _ _ _ _ _; cases (c == Value.type "enumerate")
      all_goals (wp_walk using AutoSeq1.wpAny_loadPart' ht, wpAny_pyIter_tuple hT; exact ⟨_, rfl, h⟩)
    · wp_walk using AutoSeq1.wpAny_loadPart' ht, wpAny_pyIter_tuple hT
      exact ⟨_, rfl, h⟩
theorem call_enumT {tp : Addr} {xs : Array Value} {Q : Value → Shared → Prop} (ht : s.heap.IsTuple tp xs)
    (q : ∀ h', IsEnum h' (s.heap.objs.size + 1) s.heap.objs.size 0 .none → h'.IsTupleIter s.heap.objs.size tp 0 → (∀ b o, s.heap.get? b = some o → h'.get? b = some o) → Q (.ref (s.heap.objs.size + 1)) { s with heap := h' }) :
    wpAny (model prog w) A (call (.type "enumerate") [.ref tp]) Q E s := by
  obtain ⟨⟨cl, dt, da, so⟩, ho, hc, k, hd⟩ := ht
  simp only at hc hd
  subst hc hd
  refine callType_new F.called_enumerate (by decide) (F.typeCall_enumerate_1 _) (F.newCall_enumerate_1 _) (fun obj => F.args_object_init_2 obj _) F.entry_enumerate_new (enumT_made tp xs k dt so) ⟨ho, ?_⟩
  generalize hg : s.heap.push { cls := .type "tuple_iterator", data := .fields #[.ref tp, .int 0 0] } = g
  have gz : g.objs.size = s.heap.objs.size + 1 := by rw [← hg, Heap.size_push]
  have gi : g.get? s.heap.objs.size = some { cls := .type "tuple_iterator", data := .fields #[.ref tp, .int 0 0] } := by rw [← hg]; exact Heap.get?_push_size _ rfl
  have gk : ∀ b o, s.heap.get? b = some o → g.get? b = some o := fun b o e => by rw [← hg]; exact Heap.get?_push_of_some _ e
  show _ ∧ _
  rw [gz]
  have he : IsEnum (g.push { cls := .type "enumerate", data := .fields #[.none, .bool false, .ref s.heap.objs.size, rawInt 0, .none, .none] }) (s.heap.objs.size + 1) s.heap.objs.size 0 .none := by
    have z := Heap.get?_push_size g (o := { cls := .type "enumerate", data := .fields #[.none, .bool false, .ref s.heap.objs.size, rawInt 0, .none, .none] }) rfl
    rw [gz] at z; exact z
  exact ⟨⟨_, he, rfl⟩, q _ he ⟨_, Heap.get?_push_of_some _ gi, rfl, rfl⟩ fun b o e => Heap.get?_push_of_some _ (gk b o e)⟩
end
/-- the tuple at a, of n items, each in a new pair -/
def IteT (K : PySem.W.Frag) (a : Addr) (n : Nat) : It :=
  ⟨fun i H => ∃ (xs : List V) (x : V), SqT K H a xs ∧ xs.length = n ∧ xs[i]? = some x, fun i H v H' => ∃ T x, v = .ref T ∧ H T = none ∧ H' = upd H T (.tup [.int (i : Nat), x]) ∧ ∀ xs, SqT K H a xs → xs[i]? = some x, fun i H => ∃ xs : List V, SqT K H a xs ∧ xs.length = n ∧ n ≤ i⟩
theorem turn_enumT {P : Program} {w : World} {K : PySem.W.Frag} {elts : List Expr} {kk n : Nat} {tpos : Pos} (a e it : Addr) :
    Turn P w K (.Tuple elts kk tpos) (IteT K a n) [e, it] e (fun i h => (∃ old, IsEnum h e it ((i : Nat) : Int) old) ∧ h.IsTupleIter it a i ∧ (e ≠ it ∧ a ≠ it ∧ a ≠ e) ∧ i ≤ n) where
  mem := by simp
  obj := fun i h st b hb => by
    obtain ⟨⟨old, he⟩, ⟨o, ho, hc, hd⟩, _⟩ := st
    rcases List.mem_cons.mp hb with z | z
    · rw [z]; exact ⟨_, he, fun v q => nomatch q⟩
    · exact ⟨o, by rw [List.mem_singleton.mp z]; exact ho, fun v q => by rw [hd] at q; cases q⟩
  keep := fun i h h' st k => by
    obtain ⟨⟨old, he⟩, hi, hne, hn⟩ := st
    exact ⟨⟨old, k e (by simp) _ he⟩, hi.at fun o q => k it (by simp) o q, hne, hn⟩
  item := by
    intro X hP hw hK hc i pins s σ H E I hf st hg
    subst hP hw hK
    obtain ⟨⟨old, he⟩, hit, ⟨n1, n2, n3⟩, hn⟩ := st
    obtain ⟨xs, x, hq, hxl, hx⟩ := hg
    obtain ⟨its, rv, pl, hz⟩ := I.tuple hq
    obtain ⟨u, hu, ru⟩ := rv.get hx
    have hin : i < n := by rw [← hxl]; exact (List.getElem?_eq_some_iff.mp hx).1
    have hzn : its.toArray.size = n := by rw [List.size_toArray, ← rv.length, hxl]
    have hel : e < s.heap.objs.size := Heap.lt_size he
    have hil : it < s.heap.objs.size := by obtain ⟨_, q, _⟩ := hit; exact Heap.lt_size q
    have D := Draws.tuple (prog := X.prog) (w := X.w) (A := X.A.in1) (show X.A.in1.in1.handled = none by simp [I.ok.hd hc]) it a n2 its.toArray
    refine wpAny_pyNext_enum_itemD D he ⟨hit, pl⟩ (by rw [hzn]; exact hin) n1 (by simp only [List.mem_cons, List.not_mem_nil, or_false, not_or]; exact ⟨n1, n3.symm⟩) fun y h' tk hy ho hst hT hsz hk => ?_
    have hyu : y = u := by
      have hy' : its.toArray[i]? = some y := hy
      rw [List.getElem?_toArray, hu] at hy'
      exact (Option.some.inj hy').symm
    subst hyu
    refine ⟨_, rfl, wpAny_letOwnedTupleGo_enum (s := { s with heap := h', toks := tk + 1 }) ho fun h2 he2 sb => ?_⟩
    have hT2 : h2.get? s.heap.objs.size = some { cls := .type "tuple", data := .seq #[.int i tk, y] } := (sb.2 _ (Nat.ne_of_gt hel)).trans hT
    have new : ObjOk X.prog X.w (upd H s.heap.objs.size (.tup [.int (i : Nat), x])) h2 s.heap.objs.size (.tup [.int (i : Nat), x]) := ⟨by show 2 ≤ sizeLine; decide, [.int i tk, y], .cons ⟨_, rfl⟩ (.cons ru .nil), ⟨_, hT2, rfl, _, rfl⟩⟩
    have I1 : Inv X pins σ (upd H s.heap.objs.size (.tup [.int (i : Nat), x])) { s with heap := h2, toks := tk + 1 } := I.turnedNew (ch := [e, it]) (fun b ob hb q => (sb.2 b (fun z => hb (by simp [z]))).trans (hk b ob (fun z => hb (by simp [z])) (fun z => hb (by simp [z])) q)) hf (Nat.le_refl _) new
    have e1 : ((i + 1 : Nat) : Int) = (i : Int) + 1 := by omega
    refine ⟨.ref s.heap.objs.size, _, I1, rfl, ⟨_, x, rfl, I.hok.fresh (Nat.le_refl _), rfl, fun ys hy => ?_⟩, ⟨⟨y, by rw [e1]; exact he2⟩, hst.1.at fun o q => (sb.2 it (Ne.symm n1)).trans q, ⟨n1, n2, n3⟩, hin⟩, fun b hb => ?_⟩
    · rw [I.tuple_inj hy hq]; exact hx
    · have hb' : b < s.heap.objs.size := by
        rcases List.mem_cons.mp hb with z | z
        · rw [z]; exact hel
        · rw [List.mem_singleton.mp z]; exact hil
      rw [upd_ne (Nat.ne_of_lt hb')]; exact (hf b hb).1
  done := by
    intro X hP hw hK hc i pins s σ H E I hf st hg
    subst hP hw hK
    obtain ⟨⟨old, he⟩, hit, ⟨n1, n2, n3⟩, hn⟩ := st
    obtain ⟨xs, hq, hxl, hx⟩ := hg
    obtain ⟨its, rv, pl, hz⟩ := I.tuple hq
    obtain ⟨f0, f1, f2, f3, f4, f5⟩ := hf it (by simp)
    have hzn : its.toArray.size = n := by rw [List.size_toArray, ← rv.length, hxl]
    have hin : i = its.toArray.size := by omega
    have D := Draws.tuple (prog := X.prog) (w := X.w) (A := X.A.in1) (show X.A.in1.in1.handled = none by simp [I.ok.hd hc]) it a n2 its.toArray
    refine wpAny_pyNext_enum_endD D he ⟨by rw [← hin]; exact hit, pl⟩ fun h' eb => ⟨rfl, ?_⟩
    exact I.turned (t' := s.toks) (fun b o hb q => eb b o hb q) f0 f1 f3 f4 f5
  self := fun A i s Q E st h => by
    obtain ⟨⟨_, he⟩, _⟩ := st
    exact wpAny_pyIter_enum he h
/-- enumerate of a list or a tuple -/
def iEnumB (K : PySem.W.Frag) (ta : TA) : TI := fun σ H R => ta σ H fun vs H1 => ∃ a xs, vs = [.ref a] ∧ ((SqL K H1 a xs ∧ R (Ite K a) H1) ∨ (SqT K H1 a xs ∧ R (IteT K a xs.length) H1))
theorem pi_enumB {X : Cx} {e : Expr} {ta : TA} {p pos tpos : Pos} {elts : List Expr} {kk : Nat} (hg : Gl X "enumerate") (hm : X.mg "enumerate" = none) (ha : PA X [e] ta) (hs : starEach [e] X.env = [(false, eval e X.env)] := by rfl) :
    PI X (.Tuple elts kk tpos) (.Call (.Name "enumerate" p) [e] [] pos) (iEnumB X.K ta) := by
  refine ⟨fun pins s σ H R I h => ?_⟩
  refine Call_ (ld_blt I hg hm boot_enumerate (PyProof.Rows.callWith_type1 (thn (ha.run pos pins s σ H _ I h) fun us s1 ⟨vs, H1, I1, r1, q1⟩ => ?_) hs rfl))
  obtain ⟨a, xs, ex, q⟩ := q1
  subst ex
  obtain ⟨u, rfl, ru⟩ := r1.one
  cases ru
  have new : ∀ b ∈ [s1.heap.objs.size + 1, s1.heap.objs.size], s1.heap.objs.size ≤ b := fun b hb => by
    rcases List.mem_cons.mp hb with z | z
    · omega
    · rw [List.mem_singleton.mp z]; exact Nat.le_refl _
  rcases q with ⟨hq, q⟩ | ⟨hq, q⟩
  · obtain ⟨its, rv, pl, hz⟩ := I1.list hq
    refine call_enumerate_list pl.isList fun h' he hit hsz hk => wpAny_pyIter_enum he ?_
    exact ⟨_, _, _, _, H1, rfl, I1.kept (t' := s1.toks) hk, turn_enum a (s1.heap.objs.size + 1) s1.heap.objs.size, ⟨⟨.none, he⟩, hit, Nat.succ_ne_self _⟩, fun b hb => I1.fpOk (new b hb) (I1.hok.fresh (new b hb)), q⟩
  · obtain ⟨its, rv, pl, hz⟩ := I1.tuple hq
    have hl : a < s1.heap.objs.size := by obtain ⟨_, z, _⟩ := pl; exact Heap.lt_size z
    refine call_enumT pl fun h' he hit hk => wpAny_pyIter_enum he ?_
    exact ⟨_, _, _, _, H1, rfl, I1.kept (t' := s1.toks) hk, turn_enumT (n := xs.length) a (s1.heap.objs.size + 1) s1.heap.objs.size, ⟨⟨.none, he⟩, hit, ⟨Nat.succ_ne_self _, Nat.ne_of_lt hl, Nat.ne_of_lt (Nat.lt_succ_of_lt hl)⟩, Nat.zero_le _⟩, fun b hb => I1.fpOk (new b hb) (I1.hok.fresh (new b hb)), q⟩

/-! ### set(xs), xs a list of ints -/
/-- the numbers of a list, rising, each once -/
def insI (k : Int) : List Int → List Int
  | [] => [k]
  | x :: xs => if k < x then k :: x :: xs else if k = x then x :: xs else x :: insI k xs
def setI (ns : List Int) : List Int := ns.foldr insI []
theorem mem_insI {k j : Int} : ∀ {xs : List Int}, j ∈ insI k xs ↔ j = k ∨ j ∈ xs
  | [] => by simp [insI]
  | x :: xs => by
    unfold insI
    split
    · simp
    · split
      · rename_i h; subst h; simp
      · rw [List.mem_cons, mem_insI (xs := xs), List.mem_cons]
        constructor
        · rintro (h | h | h)
          · exact .inr (.inl h)
          · exact .inl h
          · exact .inr (.inr h)
        · rintro (h | h | h)
          · exact .inr (.inl h)
          · exact .inl h
          · exact .inr (.inr h)
theorem insI_up {k : Int} : ∀ {xs : List Int}, xs.Pairwise (· < ·) → (insI k xs).Pairwise (· < ·)
  | [], _ => by simp [insI]
  | x :: xs, h => by
    obtain ⟨h1, h2⟩ := List.pairwise_cons.mp h
    unfold insI
    split
    · rename_i l
      refine List.pairwise_cons.mpr ⟨fun y hy => ?_, h⟩
      rcases List.mem_cons.mp hy with e | e
      · subst e; exact l
      · exact Int.lt_trans l (h1 y e)
    · split
      · exact h
      · refine List.pairwise_cons.mpr ⟨fun y hy => ?_, insI_up h2⟩
        rcases mem_insI.mp hy with e | e
        · subst e; omega
        · exact h1 y e
theorem setI_up (ns : List Int) : (setI ns).Pairwise (· < ·) := by
  induction ns with
  | nil => exact List.Pairwise.nil
  | cons n ns ih => exact insI_up ih
theorem mem_setI {k : Int} {ns : List Int} : k ∈ setI ns ↔ k ∈ ns := by
  induction ns with
  | nil => exact Iff.rfl
  | cons n ns ih =>
    show k ∈ insI n (setI ns) ↔ _
    rw [mem_insI, ih, List.mem_cons]
theorem up_nodup {ns : List Int} (h : ns.Pairwise (· < ·)) : ns.Nodup := h.imp fun {a b} l e => by subst e; exact absurd l (Int.lt_irrefl _)
theorem up_unique {ns ms : List Int} (h : ns.Pairwise (· < ·)) (k : ms.Pairwise (· < ·)) (e : ∀ x, x ∈ ns ↔ x ∈ ms) : ns = ms :=
  List.Perm.eq_of_pairwise (fun a b _ _ h1 h2 => absurd (Int.lt_trans h1 h2) (Int.lt_irrefl _)) h k ((List.perm_ext_iff_of_nodup (up_nodup h) (up_nodup k)).mpr e)
section
variable {P : Program} {w : World} {A : Around} {E : Value → Shared → Prop} {s : Shared}
set_option maxHeartbeats 8000000 in
theorem call_setL {la : Addr} {xs : Array Value} (ns : List Int) {Q : Value → Shared → Prop} (hh : A.handled = none) (hl : s.heap.IsList la xs) (hi : IntsAre xs.toList ns) (hb : ns.length + 1 < scanBound)
    (q : ∀ (h1 : Heap) (t c : Nat), SetR w h1 s.heap.objs.size (fun j => decide (j ∈ ns)) c → c ≤ ns.length → (∀ b o, s.heap.get? b = some o → h1.get? b = some o) → Q (.ref s.heap.objs.size) { s with heap := h1, toks := t }) :
    wpAny (model P w) A (call (.type "set") [.ref la]) Q E s := by
  have hn : xs.size = ns.length := by have z := IntsAre.length hi; rw [Array.length_toList] at z; exact z
  obtain ⟨cc, tt, hmro⟩ := F.called_set.mro
  have made := F.called_set.made; have subs := F.called_set.sub
  refine wpAny_call (codeAny_of_tree ?_); show wpAny _ _ (callAny (.type "set") _) _ _ _
  refine wpAny_pure ⟨Code.quiet_builtin _ (by decide +kernel), codeAny_builtin F.entry_type_call ?_⟩; rw [Around.under_plain (weight_type_call_type "set" [.ref la] []) rfl]
  have k1 := F.called_set.notType; have k2 := F.called_set.canCreate; have k3 := F.typeCall_set_1 (.ref la)
  repeat (any_goals (first | assumption | wp_step))

  generalize hg : s.heap.push { cls := .type "set", dict := none, data := .set #[] 0 (.fresh 0 0 (!w.params.followText "set-order")) } = g
  have gS : g.get? s.heap.objs.size = some { cls := .type "set", dict := none, data := .set #[] 0 (.fresh 0 0 (!w.params.followText "set-order")) } := by rw [← hg]; exact Heap.get?_push_size _ rfl
  have gz : g.objs.size = s.heap.objs.size + 1 := by rw [← hg, Heap.size_push]
  have gk : ∀ b o, s.heap.get? b = some o → g.get? b = some o := fun b o e => by rw [← hg]; exact Heap.get?_push_of_some _ e
  have gl : g.IsList la xs := by obtain ⟨o, e, z⟩ := hl; exact ⟨o, gk _ _ e, z⟩
  refine codeAny_mono (code_set_led1 (.ref la) (E := E) (Q₁ := fun obj s₁ => obj = .ref s.heap.objs.size ∧ s₁ = { s with heap := g }) (by rw [hg]; exact ⟨rfl, rfl⟩)) fun r s₁ hr => ?_
  cases r with
  | error e => exact hr
  | ok fl => cases fl with
    | ret obj =>
      obtain ⟨rfl, rfl⟩ := hr
      have hT : Shared.TypeIs { s with heap := g } (.ref s.heap.objs.size) "set" := ⟨_, gS, rfl⟩
      have k4 := F.called_set.init.lookup; have k5 := F.called_set.init.bind (.ref s.heap.objs.size)
      repeat (any_goals (first | assumption | wp_step))

      refine codeAny_mono (codeAny_call_builtin (R := wants (fun r s₂ => r = .none ∧ ∃ h1 t c, s₂ = { s with heap := h1, toks := t } ∧ SetR w h1 s.heap.objs.size (fun j => decide (j ∈ ns)) c ∧ c ≤ ns.length ∧ (∀ b o, s.heap.get? b = some o → h1.get? b = some o)) E) F.called_set.init.plain F.entry_set_init (check_set_init_1 hT ?_)) fun r2 s2 hr2 => ?_
      · obtain ⟨⟨oc, od, oda, os⟩, ol, ocl, k, oda2⟩ := gl
        simp only at ocl oda2
        subst ocl oda2
        have n1 := F.sub_list_set; have n2 := F.sub_list_frozenset
        have n3 : (Value.type "list" == Value.type "dict") = false := by decide
        have gl1 : g.IsList la xs := ⟨_, ol, rfl, k, rfl⟩
        have lt : la < s.heap.objs.size := by obtain ⟨o, e, _⟩ := hl; exact Heap.lt_size e
        unfold Builtin.«set.__init__» noKeywords Builtin.Frozenset.updateFrom
        generalize hPI : pyIter = PI
        wp_walk
        subst hPI

        refine wpAny_pyIter_list gl1 ?_; refine wpAny_bind (wpAny_runValue ?_)
        have hh3 : A.in1.in1.in1.handled = none := by simp [hh]
        have ne1 : la ≠ g.objs.size := by rw [gz]; exact Nat.ne_of_lt (Nat.lt_succ_of_lt lt)
        have ne2 : s.heap.objs.size ∉ [g.objs.size, la] := by
          simp only [List.mem_cons, List.not_mem_nil, or_false, not_or]; rw [gz]; exact ⟨Nat.ne_of_lt (Nat.lt_succ_self _), Nat.ne_of_gt lt⟩
        have vals : ∀ (i : Nat) (v : Value), xs[i]? = some v → ∃ k t, ns[i]? = some k ∧ v = .int k t := fun i v hv => by
          have li : i < ns.length := by rw [← hn]; exact (Array.getElem?_eq_some_iff.mp hv).1
          obtain ⟨t, e⟩ := PyProof.Rows.IntsAre.int_at hi i v (by rw [Array.getElem?_toList]; exact hv)
          refine ⟨ns[i], t, List.getElem?_eq_getElem li, ?_⟩; rw [e, List.getD_eq_getElem?_getD, List.getElem?_eq_getElem li] <;> rfl
        refine set_update_ints ((Walks.list hh3 _ la ne1 xs).toS) s.heap.objs.size ne2 ns hn hb vals (xs.size - 0) 0 _ (by omega) (Nat.zero_le _) ⟨⟨_, Heap.get?_push_size _ rfl, rfl, rfl⟩, gl1.push _⟩ ⟨0, Nat.le_refl 0, setR_new_at (Heap.get?_push_of_some _ gS)⟩ fun s1 c1 mv hc1 hS1 => ?_
        obtain ⟨h1, g1, d1, t1, o1⟩ := s1
        have eg : g1 = s.gens := mv.gens
        have ed : d1 = s.drawn := mv.drawn
        have eo : o1 = s.os := mv.os
        subst eg ed eo
        show wpAny _ _ _ _ _ _
        refine wpAny_pure ?_; show wpAny _ _ (ret Value.none) _ _ _
        rw [hn] at hc1
        refine wpAny_pure ⟨rfl, h1, t1, c1, rfl, hS1, hc1, fun b o e => ?_⟩
        have lb : b < s.heap.objs.size := Heap.lt_size e
        refine mv.heap b o ?_ (Heap.get?_push_of_some _ (gk b o e))
        simp only [List.mem_cons, List.not_mem_nil, or_false, not_or]; rw [gz]; exact ⟨Nat.ne_of_lt lb, Nat.ne_of_lt (Nat.lt_succ_of_lt lb)⟩

      · cases r2 with
        | error e => exact hr2
        | ok fl2 => cases fl2 with
          | ret r =>
            obtain ⟨rfl, h1, t, c, rfl, a1, a2, a3⟩ := hr2
            repeat (any_goals (first | assumption | wp_step))
            exact q _ _ _ a1 a2 a3
          | _ => exact hr2.elim
    | _ => exact hr.elim
end
theorem setR_size {w : World} {h : Heap} {a : Addr} {ns : List Int} {c : Nat} (R : SetR w h a (fun j => decide (j ∈ ns)) c) : c = (setI ns).length := by
  obtain ⟨o, es, ep, t, ho, hex, hd, g, nd, hm, hb, hf, hn, hr, hl⟩ := R
  have e : (es.toList.map keyOf).Perm (setI ns) := (List.perm_ext_iff_of_nodup nd (up_nodup (setI_up ns))).mpr fun k => by
    rw [← hm k, mem_setI]
    exact decide_eq_true_iff
  rw [← e.length_eq, List.length_map, Array.length_toList, hn]
/-- sorted(set(xs)), len(set(xs)), xs a list of ints -/
def tSortedSetL (K : PySem.W.Frag) (ta : TE) : TE := fun σ H Q => ta σ H fun x H1 => ∃ (l : Addr) (ns : List Int), x = .ref l ∧ SqL K H1 l (ns.map V.int) ∧ ns.length < 64 ∧ ∀ p, H1 p = none → Q (.ref p) (upd H1 p (.lst ((setI ns).map V.int)))
def tLenSetL (K : PySem.W.Frag) (ta : TE) : TE := fun σ H Q => ta σ H fun x H1 => ∃ (l : Addr) (ns : List Int), x = .ref l ∧ SqL K H1 l (ns.map V.int) ∧ ns.length < 4000 ∧ Q (.int (setI ns).length) H1
section
variable {X : Cx} {a : Expr} {ta : TE} {p p2 q pos : Pos}
theorem pe_sortedSetL (hc : X.calm = true) (hg : Gl X "sorted") (hm : X.mg "sorted" = none) (hg2 : Gl X "set") (hm2 : X.mg "set" = none) (ha : PE X a ta)
    (na : starEach [a] X.env = (false, eval a X.env) :: starEach [] X.env := by rfl) : PE X (.Call (.Name "sorted" p) [.Call (.Name "set" p2) [a] [] q] [] pos) (tSortedSetL X.K ta) := by
  refine ⟨fun pins s σ H Q I h => ?_⟩
  refine Call_ (ld_blt I hg hm boot_sorted (PyProof.Rows.callWith_builtin1 (PyProof.Rows.args_cons ?_ rfl) rfl rfl))
  refine Call_ (ld_blt I hg2 hm2 boot_set (PyProof.Rows.callWith_type1 (PyProof.Rows.args_cons (thn (ha.run pins s σ H _ I h) fun v s1 ⟨x, H1, I1, r1, q1⟩ => PyProof.Rows.args_nil ?_) na) na rfl))
  obtain ⟨l, ns, rfl, hq, hl, q1⟩ := q1
  cases r1
  obtain ⟨its, r, pl, hz⟩ := I1.list hq
  refine call_setL ns (I1.ok.hd hc) pl.isList (by simpa using r.ints) (by unfold scanBound; omega) fun h1 t c R hcn hk => PyProof.Rows.args_nil ?_
  have I2 : Inv X pins σ H1 { s1 with heap := h1, toks := t } := I1.kept hk
  have cs := setR_size R
  refine sorted_set R (I2.ok.hd hc) (by omega) fun s3 d out cc ms k g o hp hg3 hi hs hm3 hl3 => ?_
  have em : ms = setI ns := up_unique hs (setI_up ns) fun x => by rw [hm3 x, mem_setI]; exact decide_eq_true_iff
  have hn : H1 d = none := I2.hok.fresh hp
  have hlen : (ms.map V.int).length ≤ sizeLine := by rw [List.length_map, hl3, sizeLine_eq]; omega
  have J : Inv X pins σ (upd H1 d (.lst (ms.map V.int))) { ({ s1 with heap := h1, toks := t } : Shared) with heap := s3.heap, gens := s3.gens, drawn := s3.drawn, toks := s3.toks } :=
    I2.call (ch := []) (Un.laid k hp hn) (I2.hok.laid k hp ⟨hlen, out.toList, cc, vals_of_ints hi, hg3⟩) (by rw [g]; exact I2.bare) (fun _ z => nomatch z)
  have e : s3 = { ({ s1 with heap := h1, toks := t } : Shared) with heap := s3.heap, gens := s3.gens, drawn := s3.drawn, toks := s3.toks } := by
    cases s3; cases s1; cases o; rfl
  rw [e]
  refine ⟨.ref d, _, J, rfl, ?_⟩
  rw [em]
  exact q1 d hn
theorem pe_lenSetL (hc : X.calm = true) (hg : Gl X "len") (hm : X.mg "len" = none) (hg2 : Gl X "set") (hm2 : X.mg "set" = none) (ha : PE X a ta)
    (na : starEach [a] X.env = (false, eval a X.env) :: starEach [] X.env := by rfl) : PE X (.Call (.Name "len" p) [.Call (.Name "set" p2) [a] [] q] [] pos) (tLenSetL X.K ta) := by
  refine ⟨fun pins s σ H Q I h => ?_⟩
  refine Call_ (ld_blt I hg hm boot_len (PyProof.Rows.callWith_builtin1 (PyProof.Rows.args_cons ?_ rfl) rfl rfl))
  refine Call_ (ld_blt I hg2 hm2 boot_set (PyProof.Rows.callWith_type1 (PyProof.Rows.args_cons (thn (ha.run pins s σ H _ I h) fun v s1 ⟨x, H1, I1, r1, q1⟩ => PyProof.Rows.args_nil ?_) na) na rfl))
  obtain ⟨l, ns, rfl, hq, hl, q1⟩ := q1
  cases r1
  obtain ⟨its, r, pl, hz⟩ := I1.list hq
  refine call_setL ns (I1.ok.hd hc) pl.isList (by simpa using r.ints) (by unfold scanBound; omega) fun h1 t c R hcn hk => PyProof.Rows.args_nil ?_
  have I2 : Inv X pins σ H1 { s1 with heap := h1, toks := t } := I1.kept hk
  have cs := setR_size R
  obtain ⟨o, es, ep, tb, ho, hex, hd, _, _, _, hb, hf, hn, _⟩ := R
  exact call_len_set ho hex hd hf (by rw [hn] <;> omega) ⟨.int (setI ns).length, H1, I2.tok _, ⟨_, by rw [hn, cs]⟩, q1⟩
end
end Pf

/-! Dn: dicts whose keys are tuples of numbers, bools, texts, None: new, get, [] =, items, a display of one pair -/
namespace L2
open PySem PySem.Spec PyProof.Rows
/-- the dict's object stands -/
def dLO (a : Addr) (o : Obj) : HO := .ext fun h => h.get? a = some o
theorem dLO_ok {P : Program} {w : World} {H : Hp} {h : Heap} {a : Addr} {o : Obj} (e : h.get? a = some o) : ObjOk P w H h a (dLO a o) := ⟨e, ⟨o, e⟩, fun h1 h2 p k => k o p⟩
abbrev lkd (P : Program) (w : World) : HeapKind P w (List Leaf) := tupleKind (leafKind P w)
def lfV : V → Option Leaf
  | .int i => some (.num i)
  | .bl b => some (.num (if b = true then 1 else 0))
  | .str x => some (.text x)
  | .non => some .none
  | _ => none
def lfVs : List V → Option (List Leaf)
  | [] => some []
  | v :: vs => (lfV v).bind fun k => (lfVs vs).bind fun ks => some (k :: ks)
theorem lfV_is {P : Program} {w : World} {v : V} {u : Value} {k : Leaf} (e : lfV v = some k) (r : RelV v u) : (leafKind P w).is k u = true := by
  cases v with
  | int i => cases e; obtain ⟨t, rfl⟩ := r; exact decide_eq_true rfl
  | bl b => cases e; obtain rfl := (show u = Value.bool b from r); exact decide_eq_true rfl
  | str x => cases e; obtain ⟨t, rfl⟩ := r; show (x == x) = true; simp
  | non => cases e; obtain rfl := (show u = Value.none from r); rfl
  | byt _ => cases e
  | flt _ => cases e
  | ref _ => cases e
  | ty _ => cases e
theorem items_areL {P : Program} {w : World} : ∀ {vs : List V} {ks : List Leaf} {us : List Value}, lfVs vs = some ks → Vals vs us → PySem.ItemsAre (leafKind P w) ks us
  | [], ks, us, e, r => by cases r; cases e; exact .nil
  | v :: vs, ks, us, e, r => by
    cases r with
    | @cons _ u _ us h t =>
      unfold lfVs at e
      cases e1 : lfV v with
      | none => rw [e1] at e; cases e
      | some k =>
        cases e2 : lfVs vs with
        | none => rw [e1, e2] at e; cases e
        | some ks' =>
          rw [e1, e2] at e
          cases e
          exact .cons (lfV_is e1 h) (items_areL e2 t)
/-- a tracked tuple of single values is a key -/
theorem key_ofL {P : Program} {w : World} {H : Hp} {h : Heap} {a : Addr} {vs : List V} {ks : List Leaf} (ok : HOk P w H h) (e : H a = some (.tup vs)) (k : lfVs vs = some ks) : (lkd P w).is h ks a := by
  obtain ⟨_, its, r, o, h1, h2, n, h3⟩ := (show ObjOk P w H h a (.tup vs) from ok a _ e)
  exact ⟨o, its.toArray, n, h1, h2, h3, by simpa using items_areL k r⟩
theorem relV_inj {v v' : V} {u : Value} (h : RelV v u) (h' : RelV v' u) : v = v' := by
  cases v <;> cases v' <;> first
    | rfl
    | (have a := (show u = _ from h); have b := (show u = _ from h'); rw [a] at b; cases b <;> rfl)
    | (obtain ⟨t, a⟩ := h; have b := (show u = _ from h'); rw [a] at b; cases b)
    | (obtain ⟨t, a⟩ := h'; have b := (show u = _ from h); rw [a] at b; cases b)
    | (obtain ⟨t, a⟩ := h; obtain ⟨t', b⟩ := h'; rw [a] at b; cases b <;> rfl)
/-- the dict at a -/
structure DLat (P : Program) (w : World) (H : Hp) (a : Addr) (o : Obj) (xs : List (List Leaf × Addr × Value)) : Prop where
  at_ : H a = some (dLO a o)
  ns : (a == sysModules) = false
  ex : o.ExactDict
  dat : ∃ es ep, o.data = .dict es ep ∧ es.toList = xs.map (entryOfKey (lkd P w))
  nd : (xs.map (·.1)).Nodup
  sz : xs.length ≤ sizeLine
  ks : ∀ x ∈ xs, ∃ vs, lfVs vs = some x.1 ∧ H x.2.1 = some (.tup vs)
  vs : ∀ x ∈ xs, ∃ v, RelV v x.2.2
/-- what does not lean on a heap -/
structure DLp (P : Program) (w : World) (a : Addr) (o : Obj) (xs : List (List Leaf × Addr × Value)) : Prop where
  ns : (a == sysModules) = false
  ex : o.ExactDict
  dat : ∃ es ep, o.data = .dict es ep ∧ es.toList = xs.map (entryOfKey (lkd P w))
  nd : (xs.map (·.1)).Nodup
  sz : xs.length ≤ sizeLine
section
variable {P : Program} {w : World} {H H' : Hp} {h : Heap} {a : Addr} {o : Obj} {xs : List (List Leaf × Addr × Value)}
theorem DLat.p (D : DLat P w H a o xs) : DLp P w a o xs := ⟨D.ns, D.ex, D.dat, D.nd, D.sz⟩
theorem DLp.at (D : DLp P w a o xs) (e : H a = some (dLO a o)) (ks : ∀ x ∈ xs, ∃ vs, lfVs vs = some x.1 ∧ H x.2.1 = some (.tup vs)) (vs : ∀ x ∈ xs, ∃ v, RelV v x.2.2) : DLat P w H a o xs := ⟨e, D.ns, D.ex, D.dat, D.nd, D.sz, ks, vs⟩
theorem DLat.obj (D : DLat P w H a o xs) (ok : HOk P w H h) : h.get? a = some o := (ok a _ D.at_).1
theorem DLat.of (D : DLat P w H a o xs) (ok : HOk P w H h) : h.DictOfH (lkd P w) a xs := by
  obtain ⟨es, ep, e1, e2⟩ := D.dat
  refine ⟨o, es, ep, D.obj ok, D.ex, e1, e2, fun x hx => ?_, D.nd⟩
  obtain ⟨vs, k, q⟩ := D.ks x hx
  exact key_ofL ok q k
theorem DLat.mono (D : DLat P w H a o xs) (e : ∀ b u, H b = some u → H' b = some u) : DLat P w H' a o xs := ⟨e _ _ D.at_, D.ns, D.ex, D.dat, D.nd, D.sz, fun x hx => by
  obtain ⟨vs, k, q⟩ := D.ks x hx
  exact ⟨vs, k, e _ _ q⟩, D.vs⟩
theorem dLO_tup (vs : List V) : dLO a o ≠ .tup vs := fun z => by unfold dLO at z; cases z
end
abbrev oEmp : Obj := { cls := .type "dict", data := .dict #[] }
theorem dl_new {P : Program} {w : World} {H : Hp} {p : Addr} (e : H p = some (dLO p oEmp)) (hs : (p == sysModules) = false) : DLat P w H p oEmp [] :=
  ⟨e, hs, ⟨rfl, rfl, rfl⟩, ⟨#[], 0, rfl, rfl⟩, List.nodup_nil, Nat.zero_le _, fun x hx => by (cases hx), fun x hx => by (cases hx)⟩
def tDNewL : TE := fun _ H Q => ∀ p, H p = none → (p == sysModules) = false → Q (.ref p) (upd H p (dLO p oEmp))
theorem pe_dnewL {X : Cx} {pos : Pos} : PE X (.Dict [] [] pos) tDNewL := ⟨fun pins s σ H Q I h =>
  wpAny_Dict_empty ⟨.ref s.heap.objs.size, _, I.laid (a := s.heap.objs.size) (o := dLO s.heap.objs.size oEmp) (t' := s.toks) (fun _ _ q => Heap.get?_push_of_some _ q) (Nat.le_refl _) (dLO_ok (Heap.get?_push_size _ rfl)), rfl, h _ (I.hok.fresh (Nat.le_refl _)) (beq_eq_false_iff_ne.mpr (Ne.symm (Nat.ne_of_lt I.big)))⟩⟩
/-- what is told: the value there, or the other one -/
def OrV (z : V) (u : Option Value) (v : V) : Prop := match u with
  | some u => RelV v u
  | none => v = z
/-- d.get(y, x) -/
def tDGetL (P : Program) (w : World) (td ty tx : TE) : TE := fun σ H Q => td σ H fun x H1 => ∃ a o xs, x = .ref a ∧ DLat P w H1 a o xs ∧ ty σ H1 fun y H2 => tx σ H2 fun z H3 => ∃ o' xs' b vs k v, y = .ref b ∧ H3 b = some (.tup vs) ∧ lfVs vs = some k ∧ DLat P w H3 a o' xs' ∧ OrV z ((atKey xs' k).map (·.2)) v ∧ Q v H3
theorem pe_dgetL {X : Cx} {o e f : Expr} {apos cpos : Pos} {td ty tx : TE} (hu : X.A.units + 1 < cLine) (ho : PE X o td) (he : PE X e ty) (hf : PE X f tx) (m : M2 X o "get" apos e f cpos) : PE X (.Call (.Attribute o "get" apos) [e, f] [] cpos) (tDGetL X.prog X.w td ty tx) := by
  refine ⟨fun pins s σ H Q I h => ?_⟩
  refine wpAny_Call_method m.base m.few m.line PySem.F.plainAttrs_dict PySem.F.slot_dict_get PySem.F.type_dict_get (thn (ho.run pins s σ H _ I h) fun u s1 ⟨x, H1, I1, rx, a, ob, xs, ex, d, q1⟩ => ?_)
  subst ex
  obtain rfl : u = Value.ref a := rx
  have ho1 := d.obj I1.hok
  refine ⟨⟨ob, ho1, d.ex.1⟩, fun b q => ?_, ?_⟩
  · cases q
    exact ⟨ob, ho1, d.ex.2.1⟩
  rw [m.trees]
  refine Calls.callWith_builtin rfl (Calls.evalArgs_plain (Calls.spliced_cons (thn (he.run pins s1 σ H1 _ I1 q1) fun iv s2 ⟨y, H2, I2, ry, q2⟩ =>
    Calls.spliced_cons (thn (hf.run pins s2 σ H2 _ I2 q2) fun fv s3 ⟨z, H3, I3, rz, o', xs', b, vs, k, v, ey, eb, ek, d3, ov, q3⟩ => Calls.spliced_nil ?_))))
  subst ey
  cases (show iv = Value.ref b from ry)
  have dd := d3.of I3.hok
  refine call_meetsIn PySem.F.slot_dict_get dd.typeIs PySem.F.entry_dict_get (PySem.F.args_dict_get_3 _ _ _) (meetsH_dict_get_default (lkd X.prog X.w) a b d3.ns fv) ⟨tupleKind_room_in1 hu, k, xs', key_ofL I3.hok eb ek, dd, v, H3, I3.tok _, ?_, q3⟩
  unfold OrV at ov
  cases e : (atKey xs' k).map (·.2) with
  | none => rw [e] at ov; subst ov; exact rz
  | some u => rw [e] at ov; exact ov
/-- d[y] = v -/
def sDPutL (P : Program) (w : World) (td ty tv : TE) : TS := fun D σ H => tv σ H fun v H1 => td σ H1 fun x H2 => ty σ H2 fun y H3 => ∃ a o xs b vs k, x = .ref a ∧ y = .ref b ∧ H3 b = some (.tup vs) ∧ lfVs vs = some k ∧ DLat P w H3 a o xs ∧ xs.length < sizeLine ∧
  ∀ o' u, RelV v u → DLat P w (upd H3 a (dLO a o')) a o' (storedH xs k b u) → D.nx σ (upd H3 a (dLO a o'))
theorem stored_len {xs : List (List Leaf × Addr × Value)} (k : List Leaf) (b : Addr) (u : Value) : (storedH xs k b u).length ≤ xs.length + 1 := by
  unfold storedH
  split <;> simp
theorem stored_mem {xs : List (List Leaf × Addr × Value)} {k : List Leaf} {b : Addr} {u : Value} {y : List Leaf × Addr × Value} (h : y ∈ storedH xs k b u) : (∃ x ∈ xs, y.1 = x.1 ∧ y.2.1 = x.2.1 ∧ (y.2.2 = x.2.2 ∨ y.2.2 = u)) ∨ y = (k, b, u) := by
  unfold storedH at h
  split at h
  · obtain ⟨x, hx, rfl⟩ := List.mem_map.mp h
    refine .inl ⟨x, hx, ?_⟩
    unfold putAt
    split <;> simp
  · rcases List.mem_append.mp h with q | q
    · exact .inl ⟨y, q, rfl, rfl, .inl rfl⟩
    · exact .inr (List.mem_singleton.mp q)
theorem d_putL {X : Cx} {pins : List (Addr × Obj)} {σ : St} {H : Hp} {s : Shared} {a b : Addr} {o : Obj} {xs : List (List Leaf × Addr × Value)} {vs : List V} {k : List Leaf} {v : V} {r : Value} {A : Around} {E : Value → Shared → Prop} {Q : Unit → Shared → Prop}
    (hu : A.units + 1 < cLine) (I : Inv X pins σ H s) (d : DLat X.prog X.w H a o xs) (eb : H b = some (.tup vs)) (ek : lfVs vs = some k) (rv : RelV v r) (hl : xs.length < sizeLine)
    (h : ∀ o' s', DLat X.prog X.w (upd H a (dLO a o')) a o' (storedH xs k b r) → Inv X pins σ (upd H a (dLO a o')) s' → Q () s') : wpAny (model X.prog X.w) A (setItem (.ref a) (.ref b) r) Q E s := by
  have dd := d.of I.hok
  refine wpAny_setItem_heap (hsz := d.sz) (tupleKind_room_in1 hu) (key_ofL I.hok eb ek) dd fun h' dd' hs => ?_
  obtain ⟨q, es, ep, hq, h2, h3, h4, _, h5⟩ := dd'
  have hb : ∀ c ys, H c = some (.tup ys) → upd H a (dLO a q) c = some (.tup ys) := fun c ys ec => by
    rw [upd_ne (ne_of ec d.at_ (fun z => dLO_tup ys z.symm))]
    exact ec
  refine h q _ ⟨upd_same, d.ns, h2, ⟨es, ep, h3, h4⟩, h5, ?_, fun y hy => ?_, fun y hy => ?_⟩ ?_
  · have := stored_len (xs := xs) k b r
    omega
  · rcases stored_mem hy with ⟨x, hx, e1, e2, _⟩ | rfl
    · obtain ⟨ws, kw, hw⟩ := d.ks x hx
      exact ⟨ws, by rw [e1]; exact kw, by rw [e2]; exact hb _ _ hw⟩
    · exact ⟨vs, ek, hb _ _ eb⟩
  · rcases stored_mem hy with ⟨x, hx, _, _, e3 | e3⟩ | rfl
    · rw [e3]; exact d.vs x hx
    · rw [e3]; exact ⟨v, rv⟩
    · exact ⟨v, rv⟩
  · exact d_write I (by rw [d.at_]; exact True.intro) hs ⟨q, hq⟩ (dLO_ok hq)
theorem ps_dputL {X : Cx} {o i value : Expr} {pos pos' : Pos} {td ty tv : TE} (hu : X.A.units + 1 < cLine) (ho : PE X o td) (hi : PE X i ty) (hv : PE X value tv) (hs : swapsWith value (some (.Subscript o i pos')) pos.line X.env = pure false) :
    PS X (.Assign [.Subscript o i pos'] value pos) (sDPutL X.prog X.w td ty tv) := by
  refine ⟨fun pins s σ H D I h => ?_⟩
  refine wpAny_Assign_Subscript (thn (hv.run pins s σ H _ I h) fun r s1 ⟨v, H1, I1, rv, q1⟩ => thn (ho.run pins s1 σ H1 _ I1 q1) fun u s2 ⟨x, H2, I2, rx, q2⟩ => thn (hi.run pins s2 σ H2 _ I2 q2) fun iv s3 ⟨y, H3, I3, ry, a, ob, xs, b, vs, k, ex, ey, eb, ek, d, hl, q3⟩ => ?_) hs
  subst ex ey
  obtain rfl : u = Value.ref a := rx
  cases (show iv = Value.ref b from ry)
  exact d_putL hu I3 d eb ek rv hl fun o' s4 d4 I4 => ⟨σ, _, I4, q3 o' r rv d4⟩
/-! ### for k, v in d.items() -/
def ItnL (d : Addr) (o : Obj) (xs : List (List Leaf × Addr × Value)) : It :=
  ⟨fun i H => H d = some (dLO d o) ∧ i < xs.length, fun i H x H' => ∃ T k q u v, xs[i]? = some (k, q, u) ∧ RelV v u ∧ x = .ref T ∧ H T = none ∧ H' = upd H T (.tup [.ref q, v]), fun i H => H d = some (dLO d o) ∧ xs.length ≤ i⟩
section
variable {P : Program} {w : World} {K : PySem.W.Frag} {d : Addr} {o : Obj} {es : Array DictEntry} {ep : Nat} {xs : List (List Leaf × Addr × Value)}
theorem turn_itemsL {elts : List Expr} {kk : Nat} {tpos : Pos} (it : Addr) (hx : o.ExactDict) (hod : o.data = .dict es ep) (hes : es.toList = xs.map (entryOfKey (lkd P w))) (hvs : ∀ x ∈ xs, ∃ v, RelV v x.2.2) :
    Turn P w K (.Tuple elts kk tpos) (ItnL d o xs) [it] it (fun i h => ∃ ok ov, IsItemIter h it d i xs.length ep ok ov) where
  mem := by simp
  obj := fun i h st b hb => by
    have e : b = it := by simpa using hb
    subst e
    obtain ⟨ok, ov, e⟩ := st
    exact ⟨_, e, fun v z => nomatch z⟩
  keep := fun i h h' st k => let ⟨ok, ov, e⟩ := st; ⟨ok, ov, k it (by simp) _ e⟩
  item := by
    intro X hP hw hK hc i pins s σ H E I hf st hg
    subst hP hw hK
    obtain ⟨hd, hi⟩ := hg
    have ho : s.heap.get? d = some o := (I.hok d _ hd).1
    have hm : s.heap.DictRaw d es ep := ⟨o, ho, hx, hod⟩
    have hsz : es.size = xs.length := size_of_entries hes
    have hlt' : i < es.size := by omega
    obtain ⟨⟨k, q, u⟩, hkv⟩ : ∃ p, xs[i]? = some p := ⟨xs[i], List.getElem?_eq_getElem hi⟩
    have hen : es[i] = ⟨(lkd X.prog X.w).hash k, .ref q, u⟩ := by
      have := entry_at hes i
      rw [hkv, Array.getElem?_eq_getElem hlt'] at this
      exact Option.some.inj this
    obtain ⟨v, rv⟩ := hvs _ (List.mem_of_getElem? hkv)
    obtain ⟨ok, ov, he⟩ := st
    rw [← hsz] at he
    have hlt : it < s.heap.objs.size := Heap.lt_size he
    refine wpAny_pyNext_items_item_raw he hm hlt' fun h' ho hT hz hk => ?_
    rw [hen] at ho hT
    refine ⟨_, rfl, wpAny_letOwnedTupleGo_items (s := { s with heap := h' }) ho fun h'' he' sb => ?_⟩
    have hT2 : h''.get? s.heap.objs.size = some { cls := .type "tuple", data := .seq #[.ref q, u] } := (sb.2 _ (Nat.ne_of_gt hlt)).trans hT
    have new : ObjOk X.prog X.w (upd H s.heap.objs.size (.tup [.ref q, v])) h'' s.heap.objs.size (.tup [.ref q, v]) :=
      ⟨by show 2 ≤ sizeLine; decide, [.ref q, u], .cons rfl (.cons rv .nil), ⟨_, hT2, rfl, _, rfl⟩⟩
    have I1 : Inv X pins σ (upd H s.heap.objs.size (.tup [.ref q, v])) { s with heap := h'' } :=
      I.turnedNew (t' := s.toks) (ch := [it]) (fun b ob hb e => (sb.2 b (by simpa using hb)).trans (hk b ob (by simpa using hb) e)) hf (Nat.le_refl _) new
    refine ⟨.ref s.heap.objs.size, _, I1, rfl, ⟨_, k, q, u, v, hkv, rv, rfl, I.hok.fresh (Nat.le_refl _), rfl⟩, ⟨.ref q, u, ?_⟩, fun b hb => ?_⟩
    · rw [← hsz]; exact he'
    · have e : b = it := by simpa using hb
      rw [e, upd_ne (Nat.ne_of_lt hlt)]
      exact (hf it (by simp)).1
  done := by
    intro X hP hw hK hc i pins s σ H E I hf st hg
    subst hP hw hK
    obtain ⟨hd, hi⟩ := hg
    obtain ⟨f0, f1, f2, f3, f4, f5⟩ := hf it (by simp)
    have ho : s.heap.get? d = some o := (I.hok d _ hd).1
    have hm : s.heap.DictRaw d es ep := ⟨o, ho, hx, hod⟩
    have hsz : es.size = xs.length := size_of_entries hes
    obtain ⟨ok, ov, he⟩ := st
    rw [← hsz] at he
    exact wpAny_pyNext_items_end_raw (I.ok.hd hc) he hm (by omega) fun h' eb => ⟨rfl, I.turned (t' := s.toks) (fun b ob hb e => eb b ob hb e) f0 f1 f3 f4 f5⟩
  self := fun A i s Q E st h => let ⟨_, _, e⟩ := st; PySem.W.kcp_self e h
end
def iItemsL (P : Program) (w : World) (td : TE) : TI := fun σ H R => td σ H fun x H1 => ∃ d o xs, x = .ref d ∧ DLat P w H1 d o xs ∧ R (ItnL d o xs) H1
theorem pi_itemsL {X : Cx} {e : Expr} {td : TE} {apos cpos : Pos} {elts : List Expr} {kk : Nat} {tpos : Pos} (he : PE X e td) (hbase : attributeBase e "items" X.env (eval e X.env) = eval e X.env := by rfl) (hline : (apos.endLine == cpos.line) = true := by rfl) :
    PI X (.Tuple elts kk tpos) (.Call (.Attribute e "items" apos) [] [] cpos) (iItemsL X.prog X.w td) := by
  refine ⟨fun pins s σ H R I h => ?_⟩
  refine wpAny_Call_method (T := "dict") (id := "dict.items") hbase rfl hline F.plainAttrs_dict F.slot_dict_items F.type_dict_items (thn (he.run pins s σ H _ I h) fun u s1 ⟨x, H1, I1, rx, d, o, xs, ex, D, q⟩ => ?_)
  subst ex
  obtain rfl : u = Value.ref d := rx
  have ho1 := D.obj I1.hok
  obtain ⟨es, ep, e1, e2⟩ := D.dat
  have hm : s1.heap.DictRaw d es ep := ⟨o, ho1, D.ex, e1⟩
  have hsz : es.size = xs.length := size_of_entries e2
  refine ⟨hm.typeIs, fun b q => ?_, ?_⟩
  · cases q
    exact ⟨o, ho1, D.ex.2.1⟩
  have I2 : Inv X pins σ H1 { s1 with heap := s1.heap.push { cls := .type "dict_items", data := .fields #[.ref d] } } := I1.kept (t' := s1.toks) fun b ob q => Heap.get?_push_of_some _ q
  have fin : wpAny (model X.prog X.w) X.A (pyIter (.ref s1.heap.objs.size)) (PIE X pins σ (.Tuple elts kk tpos) R) X.xe { s1 with heap := s1.heap.push { cls := .type "dict_items", data := .fields #[.ref d] } } := by
    refine wpAny_pyIter_items_raw (d := d) ⟨_, Heap.get?_push_size _ rfl, rfl, rfl⟩ (hm.push _) (pi_one (tk := s1.toks) I2 _ (turn_itemsL _ D.ex e1 e2 D.vs) ⟨.none, .none, ?_⟩ q)
    rw [← hsz]
    exact Heap.get?_push_size _ rfl
  show wpAny _ _ (callWith cpos (.builtin "dict.items") [.ref d] [] []) _ X.xe s1
  exact method_meetsIn F.slot_dict_items F.entry_dict_items rfl (PySem.evalArgs_none ⟨rfl, hm.typeIs, F.args_dict_items_1 _, _, meets_dict_items_raw d D.ns, ⟨es, ep, hm⟩, fin⟩)
/-! ### {k: v} -/
def tDisp1L (P : Program) (w : World) (tk tv : TE) : TE := fun σ H Q => ∀ p, H p = none → (p == sysModules) = false → tk σ (upd H p (dLO p oEmp)) fun x H1 => tv σ H1 fun y H2 => H2 p = some (dLO p oEmp) ∧ ∃ b vs k, x = .ref b ∧ H2 b = some (.tup vs) ∧ lfVs vs = some k ∧
  ∀ o' u, RelV y u → DLat P w (upd H2 p (dLO p o')) p o' (storedH [] k b u) → Q (.ref p) (upd H2 p (dLO p o'))
theorem pe_disp1L {X : Cx} {k v : Expr} {pos : Pos} {tk tv : TE} (hu : X.A.units + 1 < cLine) (hk : PE X k tk) (hv : PE X v tv) : PE X (.Dict [some k] [v] pos) (tDisp1L X.prog X.w tk tv) := by
  refine ⟨fun pins s σ H Q I q => ?_⟩
  have hn := I.hok.fresh (Nat.le_refl s.heap.objs.size)
  have ns : (s.heap.objs.size == sysModules) = false := beq_eq_false_iff_ne.mpr (Ne.symm (Nat.ne_of_lt I.big))
  have I1 := I.laid (a := s.heap.objs.size) (o := dLO s.heap.objs.size oEmp) (h' := s.heap.push oEmp) (t' := s.toks) (fun _ _ q => Heap.get?_push_of_some _ q) (Nat.le_refl _) (dLO_ok (Heap.get?_push_size _ rfl))
  have hr : (lkd X.prog X.w).room X.A := by show X.A.units < cLine; omega
  rw [arm_eval_Dict, zip_pairTrees [some k] [v] X.env pos rfl rfl, dictDisplay_pairs (pairTrees [some k] [v] X.env pos) (by simp [pairTrees]) (by simp [pairTrees])]
  refine wpAny_bind (wpAny_standAt (wpAny_bind (wpAny_subDictH (knd := lkd X.prog X.w) hr (by simp [pairTrees]) (pairTrees_cons_walk (thn (hk.run pins _ σ _ _ I1 (q _ hn ns)) fun u s1 ⟨x, H1, J1, rx, q1⟩ => thn (hv.run pins s1 σ H1 _ J1 q1) fun u2 s2 ⟨y, H2, I2, ry, ep, b, vs, k', ex, eb, ek, q2⟩ => pairTrees_nil_walk ?_)))))
  subst ex
  cases (show u = Value.ref b from rx)
  have d0 : DLat X.prog X.w H2 s.heap.objs.size oEmp [] := dl_new ep ns
  refine ⟨[(k', b, u2)], ⟨rfl, rfl, key_ofL I2.hok eb ek, True.intro⟩, d0.of I2.hok, fun h' tk dd' hs => ?_⟩
  obtain ⟨o', es, ep', hq, h2, h3, h4, _, h5⟩ := (show h'.DictOfH (lkd X.prog X.w) s.heap.objs.size (storedH [] k' b u2) from dd')
  have hb : ∀ c ys, H2 c = some (.tup ys) → upd H2 s.heap.objs.size (dLO s.heap.objs.size o') c = some (.tup ys) := fun c ys ec => by
    rw [upd_ne (ne_of ec ep (fun z => dLO_tup ys z.symm))]
    exact ec
  have D : DLat X.prog X.w (upd H2 s.heap.objs.size (dLO s.heap.objs.size o')) s.heap.objs.size o' (storedH [] k' b u2) := by
    refine ⟨upd_same, ns, h2, ⟨es, ep', h3, h4⟩, h5, ?_, fun y hy => ?_, fun y hy => ?_⟩
    · have := stored_len (xs := []) k' b u2
      rw [sizeLine_eq]
      simp at this
      omega
    · rcases stored_mem hy with ⟨x, hx, _⟩ | rfl
      · cases hx
      · exact ⟨vs, ek, hb _ _ eb⟩
    · rcases stored_mem hy with ⟨x, hx, _⟩ | rfl
      · cases hx
      · exact ⟨y, ry⟩
  exact wpAny_pure ⟨.ref s.heap.objs.size, _, d_write I2 (by rw [ep]; exact True.intro) hs ⟨o', hq⟩ (dLO_ok hq), rfl, q2 o' u2 ry D⟩
end L2

/-! Pf1: a small language of plain data (no heap): what a def's body is read as, and what it computes -/
namespace Pf
open PySem L2

/-! ### data -/
inductive D where
  | non | bl (b : Bool) | int (i : Int) | str (s : Str)
  | lst (xs : List D) | tup (xs : List D)
  | obj (c : Nat) (fs : List (Nat × D))
  | scr (ns : List Int)
  | dct (kvs : List (List Int × D))
  | dcn (kvs : List (List D × D))

/-- a field of an owned object: settled, or an owned list -/
inductive F where
  | fz (d : D) | ol (xs : List D)
/-- what is owned by a frame: a list, an instance -/
inductive OP where
  | lst (xs : List D) | obj (c : Nat) (fs : List (Nat × F)) | dct (kvs : List (List Int × D)) | dcn (kvs : List (List D × D))
/-- a slot: nothing, settled data, an owned thing (true: by this frame; false: by a caller) -/
inductive Sl where
  | un | va (d : D) | ow (b : Bool) (p : OP)
/-- what an expression gives: settled data, a new owned thing, the thing of slot i -/
inductive Rv where
  | va (d : D) | fr (p : OP) | s (i : Nat) | pr (d : D) (xs : List D)

@[simp] def F.d : F → D
  | .fz d => d
  | .ol xs => .lst xs
@[simp] def OP.d : OP → D
  | .lst xs => .lst xs
  | .obj c fs => .obj c (fs.map fun p => (p.1, p.2.d))
  | .dct kvs => .dct kvs
  | .dcn kvs => .dcn kvs

/-! ### outcomes -/
inductive Rs (α : Type) where
  | stuck | ok (a : α)
def Rs.bind {α β : Type} : Rs α → (α → Rs β) → Rs β
  | .stuck, _ => .stuck
  | .ok a, f => f a
def Rs.of {α : Type} : Option α → Rs α
  | none => .stuck
  | some a => .ok a
def Rs.sat {α : Type} (m : Rs α) (P : α → Prop) : Prop := match m with
  | .stuck => False
  | .ok a => P a
def Rs.chk (c : Prop) [Decidable c] : Rs Unit := if c then .ok () else .stuck
theorem Rs.sat_bind {α β : Type} {m : Rs α} {f : α → Rs β} {P : β → Prop} : (m.bind f).sat P ↔ m.sat fun a => (f a).sat P := by
  cases m <;> exact Iff.rfl
theorem Rs.sat_ok {α : Type} {a : α} {P : α → Prop} : (Rs.ok a).sat P ↔ P a := Iff.rfl
theorem Rs.sat_mono {α : Type} {m : Rs α} {P P' : α → Prop} (h : m.sat P) (k : ∀ a, P a → P' a) : m.sat P' := by
  cases m with
  | stuck => exact h
  | ok a => exact k a h
@[simp] theorem Rs.bind_ok {α β : Type} (a : α) (f : α → Rs β) : (Rs.ok a).bind f = f a := rfl
@[simp] theorem Rs.bind_stuck {α β : Type} (f : α → Rs β) : (Rs.stuck : Rs α).bind f = .stuck := rfl
@[simp] theorem Rs.of_some {α : Type} (a : α) : Rs.of (some a) = .ok a := rfl
theorem Rs.chk_ok {c : Prop} [Decidable c] (h : c) : Rs.chk c = .ok () := if_pos h
theorem Rs.of_sat {α : Type} {o : Option α} {P : α → Prop} (h : (Rs.of o).sat P) : ∃ a, o = some a ∧ P a := by
  cases o with
  | none => exact h.elim
  | some a => exact ⟨a, rfl, h⟩
theorem Rs.chk_sat {c : Prop} [Decidable c] {P : Unit → Prop} (h : (Rs.chk c).sat P) : c ∧ P () := by
  unfold Rs.chk at h
  by_cases e : c
  · rw [if_pos e] at h; exact ⟨e, h⟩
  · rw [if_neg e] at h; exact h.elim

/-! ### the language -/
inductive BOp where
  | add | sub | mul | fdiv | mod | pow
  deriving DecidableEq
inductive COp where
  | eq | ne | lt | le | gt | ge | isin | notin
  deriving DecidableEq
inductive Bi where
  | len | abs | int | list | tuple | sum | max1 | max2 | min2 | all | sorted | sortedSet | lenSet | listRange | tupRange | listRev | isI | isB | isS | isT | isL
  deriving DecidableEq
inductive Bm where
  | append | extend | insert | pop1 | remove | clear | index | count
  deriving DecidableEq
inductive Tgt where
  | one (i : Nat) | many (is : List Nat)
  deriving DecidableEq

mutual
inductive PE where
  | var (i : Nat) | cI (i : Int) | cB (b : Bool) | cN | cS (s : Str) | gI (x : Str) (i : Int)
  | tup (es : PEs) | lst (es : PEs)
  | bin (op : BOp) (a b : PE) | neg (a : PE)
  | cmp (op : COp) (a b : PE) | chain (op op' : COp) (a b c : PE) | isN (a : PE) | notN (a : PE)
  | and (es : PEs) | or (es : PEs) | not (a : PE) | ife (t a b : PE)
  | ix (a b : PE) | sl (a : PE) (lo hi : POpt)
  | fld (a : PE) (c f : Nat)
  | call (f : Nat) (es : PEs) | make (c f : Nat) (es : PEs) | meth (a : PE) (c m f : Nat) (es : PEs)
  | bi (b : Bi) (es : PEs) | bm (m : Bm) (a : PE) (es : PEs)
  | lc (own : List Nat) (tg : Tgt) (it : PI) (cond : POpt) (elt : PE)
  | lcO (i : Nat) (own : List Nat) (tg : Tgt) (cond : POpt) (elt : PE)
  | tup2 (e : PE) (i : Nat) | frz (i : Nat) (e : PE) | frzK (i j : Nat) (e : PE)
  | nvr
  | dnew | din (i : Nat) (k : PE) | dget (i : Nat) (k : PE)
  | dnewN | ddispN (k v : PE) | dgetN (i : Nat) (k x : PE)
inductive PEs where
  | nil | cons (e : PE) (es : PEs)
inductive POpt where
  | none | some (e : PE)
inductive PI where
  | of (e : PE) | rng1 (a : PE) | rng2 (a b : PE) | enum (a : PE) | rev (a : PE) | items (a : PE)
end
mutual
inductive PS where
  | asg (i : Nat) (e : PE) | asgT (is : List Nat) (e : PE) | setix (a b e : PE) | setfld (i c f : Nat) (e : PE) | aug (i : Nat) (op : BOp) (e : PE)
  | ex (e : PE) | ret (e : PE) | retN | ite (c : PE) (a b : PSs) | for (tg : Tgt) (it : PI) (body : PSs) | whl (c : PE) (body : PSs) | pass | doc | never
  | asgT2 (i j : Nat) (e : PE) | setfldE (i c f : Nat) | fapp (i c f j : Nat) | setkey (i : Nat) (k e : PE) | setkeyN (i : Nat) (k e : PE)
inductive PSs where
  | nil | cons (s : PS) (ss : PSs)
end

/-- a def: how many parameters, which of them it may change in place, how many names, its body -/
structure PDef where
  np : Nat
  io : List Bool
  ns : Nat
  own : Bool
  body : PSs

/-! ### reading data -/
abbrev Sls := List Sl
@[simp] def view (sl : Sls) : Rv → Option D
  | .va d => some d
  | .fr p => some p.d
  | .s i => match sl[i]? with
    | some (.va d) => some d
    | some (.ow _ p) => some p.d
    | _ => none
  | .pr _ _ => none
@[simp] def putA {α : Type} (f : Nat) (x : α) : List (Nat × α) → List (Nat × α)
  | [] => [(f, x)]
  | (g, y) :: r => if f = g then (f, x) :: r else (g, y) :: putA f x r
/-- settle what was given -/
@[simp] def settle (sl : Sls) : Rv → Option (D × Sls)
  | .va d => some (d, sl)
  | .fr p => some (p.d, sl)
  | .s i => match sl[i]? with
    | some (.va d) => some (d, sl)
    | some (.ow true p) => some (p.d, sl.set i (.va p.d))
    | _ => none
  | .pr _ _ => none

mutual
def D.py : D → PyData
  | .non => .none
  | .bl b => .bool b
  | .int i => .int i
  | .str s => .str s
  | .lst xs => .list (D.pys xs)
  | .tup xs => .tuple (D.pys xs)
  | .obj _ _ => .none
  | .scr _ => .none
  | .dct _ => .none
  | .dcn _ => .none
def D.pys : List D → List PyData
  | [] => []
  | x :: xs => x.py :: D.pys xs
end
mutual
/-- plain data: no instance, no script within -/
def D.pl : D → Bool
  | .lst xs => D.pls xs
  | .tup xs => D.pls xs
  | .obj _ _ => false
  | .scr _ => false
  | .dct _ => false
  | .dcn _ => false
  | _ => true
def D.pls : List D → Bool
  | [] => true
  | x :: xs => x.pl && D.pls xs
end
/-- a single value -/
@[simp] def D.sc : D → Option V
  | .non => some .non
  | .bl b => some (.bl b)
  | .int i => some (.int i)
  | .str s => some (.str s)
  | _ => none
@[simp] def scs : List D → Option (List V)
  | [] => some []
  | x :: xs => match x.sc, scs xs with
    | some v, some vs => some (v :: vs)
    | _, _ => none
def intsD : List D → Option (List Int)
  | [] => some []
  | .int i :: xs => (intsD xs).map (i :: ·)
  | _ :: _ => none
def bls : List D → Option (List Bool)
  | [] => some []
  | .bl b :: xs => (bls xs).map (b :: ·)
  | _ :: _ => none
@[simp] def Rv.flat : Rv → Bool
  | .va d => d.sc.isSome
  | .fr (.lst xs) => (scs xs).isSome
  | _ => false
def cutA {α : Type} (xs : List α) (lo hi : Option Int) : List α := (xs.drop (HT.sIx xs.length 0 lo)).take (HT.sIx xs.length xs.length hi - HT.sIx xs.length 0 lo)
def sortI (ns : List Int) : List Int := ns.mergeSort fun a b => decide (a ≤ b)
/-- a dict's keys: tuples of ints -/
def keyOf : D → Option (List Int)
  | .tup xs => intsD xs
  | _ => none
def lookD (kvs : List (List Int × D)) (k : List Int) : Option D := (kvs.find? fun kv => decide (kv.1 = k)).map (·.2)
def putD (kvs : List (List Int × D)) (k : List Int) (d : D) : List (List Int × D) := if (kvs.any fun kv => decide (kv.1 = k)) = true then kvs.map (fun kv => if kv.1 = k then (kv.1, d) else kv) else kvs ++ [(k, d)]
/-- a dict's keys: tuples of single values -/
def lfD : D → Option Leaf
  | .int i => some (.num i)
  | .bl b => some (.num (if b = true then 1 else 0))
  | .str x => some (.text x)
  | .non => some .none
  | _ => none
def lfDs : List D → Option (List Leaf)
  | [] => some []
  | d :: ds => (lfD d).bind fun k => (lfDs ds).bind fun ks => some (k :: ks)
def keyN : D → Option (List D × List Leaf)
  | .tup xs => (lfDs xs).map fun k => (xs, k)
  | _ => none
def lookN (kvs : List (List D × D)) (k : List Leaf) : Option D := (kvs.find? fun kv => decide (lfDs kv.1 = some k)).map (·.2)
def putN (kvs : List (List D × D)) (ks : List D) (k : List Leaf) (d : D) : List (List D × D) := if (kvs.any fun kv => decide (lfDs kv.1 = some k)) = true then kvs.map (fun kv => if lfDs kv.1 = some k then (kv.1, d) else kv) else kvs ++ [(ks, d)]
def maxI : List Int → Int
  | [] => 0
  | [x] => x
  | x :: y :: r => let m := maxI (y :: r); if m > x then m else x

/-! ### operations on data -/
def eqD (a b : D) : Rs Bool := if a.pl = true ∧ b.pl = true ∧ a.py.depth ≤ 60 then .ok (PyData.eqv a.py b.py) else .stuck
def ltD : D → D → Rs Bool
  | .int i, .int j => .ok (decide (i < j))
  | .tup xs, .tup ys => if D.pls xs = true ∧ D.pls ys = true ∧ PySem.W.alike (.tuple (D.pys xs)) (.tuple (D.pys ys)) = true ∧ (PyData.tuple (D.pys xs)).depth ≤ 8 then .ok (PySem.W.dataLt (.tuple (D.pys xs)) (.tuple (D.pys ys))) else .stuck
  | _, _ => .stuck
def inD (neg : Bool) (x : D) : D → Rs Bool
  | .lst xs => if x.pl = true ∧ D.pls xs = true ∧ x.py.depth ≤ 60 then .ok (neg ^^ (D.pys xs).any fun z => PyData.eqv z x.py) else .stuck
  | .tup xs => if x.pl = true ∧ D.pls xs = true ∧ x.py.depth ≤ 60 then .ok (neg ^^ (D.pys xs).any fun z => PyData.eqv z x.py) else .stuck
  | _ => .stuck

@[simp] def boolD : D → Rs Bool
  | .bl b => .ok b
  | _ => .stuck
@[simp] def nonD : D → Bool
  | .non => true
  | _ => false
def cmpD : COp → D → D → Rs Bool
  | .eq, a, b => eqD a b
  | .ne, a, b => (eqD a b).bind fun k => .ok (!k)
  | .lt, a, b => ltD a b
  | .le, .int i, .int j => .ok (decide (i ≤ j))
  | .gt, .int i, .int j => .ok (decide (j < i))
  | .ge, .int i, .int j => .ok (decide (j ≤ i))
  | .isin, a, b => inD false a b
  | .notin, a, b => inD true a b
  | _, _, _ => .stuck
instance (i j : Int) : Decidable (CMul i j) := by unfold CMul; exact inferInstance
instance (i j : Int) : Decidable (CDiv i j) := by unfold CDiv; exact inferInstance
instance (i j : Int) : Decidable (CPow i j) := by unfold CPow; exact inferInstance
def binD : BOp → D → D → Rs Rv
  | .add, .int i, .int j => .ok (.va (.int (i + j)))
  | .add, .lst xs, .lst ys => if xs.length + ys.length ≤ sizeLine then .ok (.fr (.lst (xs ++ ys))) else .stuck
  | .add, .tup xs, .tup ys => if xs.length + ys.length ≤ sizeLine then .ok (.va (.tup (xs ++ ys))) else .stuck
  | .sub, .int i, .int j => .ok (.va (.int (i - j)))
  | .mul, .int i, .int j => if CMul i j then .ok (.va (.int (i * j))) else .stuck
  | .mul, .lst xs, .int k => if -(2 ^ 63) ≤ k ∧ k < 2 ^ 63 ∧ xs.length * k.toNat ≤ sizeLine then .ok (.fr (.lst (List.replicate k.toNat xs).flatten)) else .stuck
  | .fdiv, .int i, .int j => if CDiv i j then .ok (.va (.int (i / j))) else .stuck
  | .mod, .int i, .int j => if 0 < j then .ok (.va (.int (i % j))) else .stuck
  | .pow, .int i, .int j => if CPow i j then .ok (.va (.int (i ^ j.toNat))) else .stuck
  | _, _, _ => .stuck
def ixD : D → D → Rs D
  | .lst xs, .int i => .of (atI xs i)
  | .tup xs, .int i => .of (atI xs i)
  | _, _ => .stuck
@[simp] def slD : D → Option Int → Option Int → Rs Rv
  | .lst xs, lo, hi => .ok (.fr (.lst (cutA xs lo hi)))
  | .tup xs, lo, hi => .ok (.va (.tup (cutA xs lo hi)))
  | _, _, _ => .stuck
@[simp] def intD : D → Rs Int
  | .int i => .ok i
  | _ => .stuck
def rangeD (a b : Int) : List D := (List.range (b - a).toNat).map fun i => .int (a + (i : Nat))
def biD : Bi → List D → Rs Rv
  | .len, [.lst xs] => .ok (.va (.int xs.length))
  | .len, [.tup xs] => .ok (.va (.int xs.length))
  | .abs, [.int i] => .ok (.va (.int (if i < 0 then -i else i)))
  | .int, [.int i] => .ok (.va (.int i))
  | .int, [.bl b] => .ok (.va (.int (if b then 1 else 0)))
  | .list, [.lst xs] => .ok (.fr (.lst xs))
  | .list, [.tup xs] => .ok (.fr (.lst xs))
  | .tuple, [.lst xs] => .ok (.va (.tup xs))
  | .tuple, [.tup xs] => .ok (.va (.tup xs))
  | .sum, [.lst xs] => (Rs.of (intsD xs)).bind fun ns => .ok (.va (.int ns.sum))
  | .max1, [.lst xs] => (Rs.of (intsD xs)).bind fun ns => if 0 < ns.length then .ok (.va (.int (maxI ns))) else .stuck
  | .max2, [.int i, .int j] => .ok (.va (.int (if j > i then j else i)))
  | .min2, [.int i, .int j] => .ok (.va (.int (if j < i then j else i)))
  | .all, [.lst xs] => (Rs.of (bls xs)).bind fun bs => .ok (.va (.bl (bs.all id)))
  | .sorted, [.lst xs] => (Rs.of (intsD xs)).bind fun ns => .ok (.fr (.lst ((sortI ns).map .int)))
  | .sorted, [.tup xs] => (Rs.of (intsD xs)).bind fun ns => .ok (.fr (.lst ((sortI ns).map .int)))
  | .sortedSet, [.lst xs] => (Rs.of (intsD xs)).bind fun ns => if ns.length < 64 then .ok (.fr (.lst ((setI ns).map .int))) else .stuck
  | .lenSet, [.lst xs] => (Rs.of (intsD xs)).bind fun ns => if ns.length < 4000 then .ok (.va (.int (setI ns).length)) else .stuck
  | .listRange, [.int n] => if -(2 ^ 62) ≤ n ∧ n ≤ 16777216 then .ok (.fr (.lst (rangeD 0 n))) else .stuck
  | .tupRange, [.int n] => if -(2 ^ 62) ≤ n ∧ n ≤ 16777216 then .ok (.va (.tup (rangeD 0 n))) else .stuck
  | .listRev, [.lst xs] => .ok (.fr (.lst xs.reverse))
  | .isI, [d] => match d with | .int _ => .ok (.va (.bl true)) | .bl _ => .ok (.va (.bl true)) | .obj _ _ => .stuck | .scr _ => .stuck | .dct _ => .stuck | .dcn _ => .stuck | _ => .ok (.va (.bl false))
  | .isB, [d] => match d with | .bl _ => .ok (.va (.bl true)) | .obj _ _ => .stuck | .scr _ => .stuck | .dct _ => .stuck | .dcn _ => .stuck | _ => .ok (.va (.bl false))
  | .isS, [d] => match d with | .str _ => .ok (.va (.bl true)) | .obj _ _ => .stuck | .scr _ => .stuck | .dct _ => .stuck | .dcn _ => .stuck | _ => .ok (.va (.bl false))
  | .isT, [d] => match d with | .tup _ => .ok (.va (.bl true)) | .obj _ _ => .stuck | .scr _ => .stuck | .dct _ => .stuck | .dcn _ => .stuck | _ => .ok (.va (.bl false))
  | .isL, [d] => match d with | .lst _ => .ok (.va (.bl true)) | .obj _ _ => .stuck | .scr _ => .stuck | .dct _ => .stuck | .dcn _ => .stuck | _ => .ok (.va (.bl false))
  | _, _ => .stuck
/-- a list's own methods that change it: what is told, the list behind -/
def bmD : Bm → List D → List D → Rs (D × List D)
  | .append, xs, [d] => if xs.length < sizeLine then .ok (.non, xs ++ [d]) else .stuck
  | .extend, xs, [.lst ys] => if xs.length + ys.length ≤ sizeLine then .ok (.non, xs ++ ys) else .stuck
  | .extend, xs, [.tup ys] => if xs.length + ys.length ≤ sizeLine then .ok (.non, xs ++ ys) else .stuck
  | .insert, xs, [.int i, d] => if i = 0 ∧ xs.length < sizeLine then .ok (.non, d :: xs) else .stuck
  | .pop1, xs, [.int i] => if 0 ≤ i ∧ i < xs.length ∧ i < 2 ^ 63 then (Rs.of xs[i.toNat]?).bind fun d => .ok (d, xs.eraseIdx i.toNat) else .stuck
  | .remove, xs, [d] => if d.pl = true ∧ D.pls xs = true ∧ d.py.depth ≤ 60 then (Rs.of (PySem.SeqAt.dataPlace (D.pys xs) d.py)).bind fun j => .ok (.non, xs.eraseIdx j) else .stuck
  | .clear, _, [] => .ok (.non, [])
  | _, _, _ => .stuck
/-- those that only look -/
def blD : Bm → D → List D → Rs D
  | .index, .lst xs, [d] => if d.pl = true ∧ D.pls xs = true ∧ d.py.depth ≤ 60 then (Rs.of (PySem.SeqAt.dataPlace (D.pys xs) d.py)).bind fun j => .ok (.int (j : Nat)) else .stuck
  | .count, .lst xs, [.int k] => (Rs.of (intsD xs)).bind fun ns => .ok (.int (ns.count k))
  | _, _, _ => .stuck
@[simp] def Bm.looks : Bm → Bool
  | .index => true
  | .count => true
  | _ => false

/-! ### slots -/
@[simp] def setS (sl : Sls) (i : Nat) (x : Sl) : Rs Sls := match sl[i]? with
  | some (.ow false _) => .stuck
  | some _ => .ok (sl.set i x)
  | none => .stuck
@[simp] def setAll : Sls → List Nat → List D → Rs Sls
  | sl, [], [] => .ok sl
  | sl, i :: is, d :: ds => (setS sl i (.va d)).bind fun sl => setAll sl is ds
  | _, _, _ => .stuck
@[simp] def giveT (tg : Tgt) (d : D) (sl : Sls) : Rs Sls := match tg, d with
  | .one i, d => setS sl i (.va d)
  | .many is, .tup ds => setAll sl is ds
  | .many _, _ => .stuck
/-- what is owned is out of sight -/
@[simp] def hidS : Sls → Sls
  | [] => []
  | .ow _ _ :: r => .un :: hidS r
  | s :: r => s :: hidS r
@[simp] def wipeS (sl : Sls) : List Nat → Sls
  | [] => sl
  | v :: vs => (wipeS sl vs).set v .un
def backS (orig sl : Sls) : List Nat → Sls
  | [] => sl
  | v :: vs => match orig[v]? with
    | some x => (backS orig sl vs).set v x
    | none => backS orig sl vs
@[simp] def calmS (sl : Sls) (vs : List Nat) : Bool := vs.all fun v => match sl[v]? with
  | some .un => true
  | some (.va _) => true
  | _ => false
/-- settle the values that are put into a list -/
@[simp] def settleR : Sls → List Rv → Rs (List D × Sls)
  | sl, [] => .ok ([], sl)
  | sl, r :: rs => (Rs.of (settle sl r)).bind fun p => (settleR p.2 rs).bind fun q => .ok (p.1 :: q.1, q.2)
@[simp] def viewR (sl : Sls) : List Rv → Rs (List D)
  | [] => .ok []
  | r :: rs => (Rs.of (view sl r)).bind fun d => (viewR sl rs).bind fun ds => .ok (d :: ds)

/-- the arguments as a callee has them; io: the place of the one that it may change -/
@[simp] def argS (sl : Sls) (io : Option Nat) (rs : List Rv) : Rs (List Sl) := (viewR sl rs).bind fun ds => match io with
  | none => .ok (ds.map Sl.va)
  | some k => (match rs[k]? with
    | some (.s i) => (match sl[i]? with
      | some (.ow _ p) => .ok ((ds.map Sl.va).set k (.ow false p))
      | _ => .stuck)
    | _ => .stuck)
@[simp] def Rv.root : Rv → Option Nat
  | .s i => some i
  | _ => none
abbrev CF := Nat → List Sl → Rs (Rv × Option OP)
@[simp] def OP.flat : OP → Bool
  | .lst xs => (scs xs).isSome
  | _ => false
/-- a def is called -/
@[simp] def doCall (cf : CF) (io : Option Nat) (f : Nat) (rs : List Rv) (sl : Sls) : Rs (Rv × Sls) :=
  (argS sl io rs).bind fun as => (cf f as).bind fun q =>
    match io with
    | none => (match q.2 with
      | none => if q.1.flat = true then .ok (q.1, sl) else (settleR sl rs).bind fun z => .ok (q.1, z.2)
      | some _ => .stuck)
    | some k => (match rs[k]?, q.2 with
      | some (.s i), some p => if ((rs.set k (.va .non)).all fun r => decide (r.root ≠ some i)) = true then
          (if q.1.flat = true ∧ p.flat = true then (match sl[i]? with
            | some (.ow b _) => .ok (q.1, sl.set i (.ow b p))
            | _ => .stuck)
          else (settleR sl (rs.set k (.va .non))).bind fun z => (match z.2[i]? with
            | some (.ow b _) => .ok (q.1, z.2.set i (.ow b p))
            | _ => .stuck)) else .stuck
      | _, _ => .stuck)
/-- an instance is made -/
@[simp] def doMake (cf : CF) (io : Option Nat) (c f : Nat) (rs : List Rv) (sl : Sls) : Rs (Rv × Sls) :=
  (settleR sl rs).bind fun z => (cf f (.ow false (.obj c []) :: z.1.map Sl.va)).bind fun q =>
    match io, q.1, q.2 with
    | some 0, .va .non, some p => .ok (.fr p, z.2)
    | _, _, _ => .stuck
@[simp] def fldD (sl : Sls) (c f : Nat) : Rv → Rs Rv
  | .va (.obj c' fs) => if c' = c then (Rs.of (fs.lookup f)).bind fun d => .ok (.va d) else .stuck
  | .s i => match sl[i]? with
    | some (.ow _ (.obj c' fs)) => if c' = c then (Rs.of (fs.lookup f)).bind fun x => match x with
      | .fz d => .ok (.va d)
      | .ol _ => .stuck else .stuck
    | _ => .stuck
  | _ => .stuck
/-- it is an instance of the class c, without a field m -/
@[simp] def clsOf (sl : Sls) (c m : Nat) : Rv → Rs Unit
  | .va (.obj c' fs) => if c' = c ∧ fs.lookup m = none then .ok () else .stuck
  | .s i => match sl[i]? with
    | some (.ow _ (.obj c' fs)) => if c' = c ∧ fs.lookup m = none then .ok () else .stuck
    | _ => .stuck
  | _ => .stuck
@[simp] def lstD : D → Rs Unit
  | .lst _ => .ok ()
  | _ => .stuck
/-- the list that a method changes -/
@[simp] def ownL (sl : Sls) : Rv → Option (List D)
  | .s i => match sl[i]? with
    | some (.ow _ (.lst xs)) => some xs
    | _ => none
  | _ => none
@[simp] def setL (sl : Sls) (ys : List D) : Rv → Sls
  | .s i => match sl[i]? with
    | some (.ow b _) => sl.set i (.ow b (.lst ys))
    | _ => sl
  | _ => sl
/-! ### loops -/
def lcLoop (body : D → Sls → Rs (Option D × Sls)) : List D → Sls → Rs (List D × Sls)
  | [], sl => .ok ([], sl)
  | d :: ds, sl => (body d sl).bind fun q => (lcLoop body ds q.2).bind fun p => .ok ((match q.1 with | some y => y :: p.1 | none => p.1), p.2)

inductive Fl where
  | nx | brk | ct | ret (r : Rv)
def forLoop (body : D → Sls → Rs (Fl × Sls)) : List D → Sls → Rs (Fl × Sls)
  | [], sl => .ok (.nx, sl)
  | d :: ds, sl => (body d sl).bind fun q => match q.1 with
    | .nx => forLoop body ds q.2
    | .ct => forLoop body ds q.2
    | .brk => .ok (.nx, q.2)
    | .ret r => .ok (.ret r, q.2)
def whlLoop (test : Sls → Rs (Bool × Sls)) (body : Sls → Rs (Fl × Sls)) : Nat → Sls → Rs (Fl × Sls)
  | 0, _ => .stuck
  | n + 1, sl => (test sl).bind fun b => if b.1 = true then (body b.2).bind fun q => (match q.1 with
      | .nx => whlLoop test body n q.2
      | .ct => whlLoop test body n q.2
      | .brk => .ok (.nx, q.2)
      | .ret r => .ok (.ret r, q.2)) else .ok (.nx, b.2)

/-- def table -/
abbrev Tab := Nat → Option PDef
section
variable (T : Tab) (cf : CF)
def ioOf (f : Nat) : Option Nat := (T f).bind fun d => d.io.findIdx? id
mutual
@[simp] def evE : PE → Sls → Rs (Rv × Sls)
  | .var i, sl => (match sl[i]? with
    | some (.va d) => .ok (.va d, sl)
    | some (.ow _ _) => .ok (.s i, sl)
    | _ => .stuck)
  | .cI i, sl => .ok (.va (.int i), sl)
  | .cB b, sl => .ok (.va (.bl b), sl)
  | .cN, sl => .ok (.va .non, sl)
  | .cS s, sl => .ok (.va (.str s), sl)
  | .gI _ i, sl => .ok (.va (.int i), sl)
  | .tup es, sl => (evEs es sl).bind fun p => (settleR p.2 p.1).bind fun q => if q.1.length ≤ sizeLine then .ok (.va (.tup q.1), q.2) else .stuck
  | .lst es, sl => (evEs es sl).bind fun p => (settleR p.2 p.1).bind fun q => if q.1.length ≤ sizeLine then .ok (.fr (.lst q.1), q.2) else .stuck
  | .bin op a b, sl => (evE a sl).bind fun p => (evE b p.2).bind fun q => (Rs.of (view q.2 p.1)).bind fun x => (Rs.of (view q.2 q.1)).bind fun y => (binD op x y).bind fun r => .ok (r, q.2)
  | .neg a, sl => (evE a sl).bind fun p => (Rs.of (view p.2 p.1)).bind fun x => (intD x).bind fun i => .ok (.va (.int (-i)), p.2)
  | .cmp op a b, sl => (evE a sl).bind fun p => (evE b p.2).bind fun q => (Rs.of (view q.2 p.1)).bind fun x => (Rs.of (view q.2 q.1)).bind fun y => (cmpD op x y).bind fun k => .ok (.va (.bl k), q.2)
  | .chain op op' a b c, sl => (evE a sl).bind fun p => (evE b p.2).bind fun q => (Rs.of (view q.2 p.1)).bind fun x => (Rs.of (view q.2 q.1)).bind fun y => (cmpD op x y).bind fun k =>
      if k = true then (evE c q.2).bind fun r => (Rs.of (view r.2 q.1)).bind fun y => (Rs.of (view r.2 r.1)).bind fun z => (cmpD op' y z).bind fun k => .ok (.va (.bl k), r.2) else .ok (.va (.bl false), q.2)
  | .isN a, sl => (evE a sl).bind fun p => (Rs.of (view p.2 p.1)).bind fun x => .ok (.va (.bl (nonD x)), p.2)
  | .notN a, sl => (evE a sl).bind fun p => (Rs.of (view p.2 p.1)).bind fun x => .ok (.va (.bl (!nonD x)), p.2)
  | .and es, sl => evAnd es sl
  | .or es, sl => evOr es sl
  | .not a, sl => (evE a sl).bind fun p => (Rs.of (view p.2 p.1)).bind fun x => (boolD x).bind fun k => .ok (.va (.bl (!k)), p.2)
  | .ife t a b, sl => (evT t sl).bind fun p => if p.1 = true then evE a p.2 else evE b p.2
  | .ix a b, sl => (evE a sl).bind fun p => (evE b p.2).bind fun q => (Rs.of (view q.2 p.1)).bind fun x => (Rs.of (view q.2 q.1)).bind fun y => (ixD x y).bind fun d => .ok (.va d, q.2)
  | .sl a lo hi, sl => (evE a sl).bind fun p => (evO lo p.2).bind fun l => (evO hi l.2).bind fun h => (Rs.of (view h.2 p.1)).bind fun x => (slD x l.1 h.1).bind fun r => .ok (r, h.2)
  | .fld a c f, sl => (evE a sl).bind fun p => (fldD p.2 c f p.1).bind fun r => .ok (r, p.2)
  | .call f es, sl => (evEs es sl).bind fun p => doCall cf (ioOf T f) f p.1 p.2
  | .make c f es, sl => (evEs es sl).bind fun p => doMake cf (ioOf T f) c f p.1 p.2
  | .meth a c m f es, sl => (evE a sl).bind fun o => (clsOf o.2 c m o.1).bind fun _ => (evEs es o.2).bind fun p => doCall cf (ioOf T f) f (o.1 :: p.1) p.2
  | .bi b es, sl => (evEs es sl).bind fun p => (viewR p.2 p.1).bind fun ds => (biD b ds).bind fun r => .ok (r, p.2)
  | .bm m a es, sl => (evE a sl).bind fun o => (Rs.of (view o.2 o.1)).bind fun x => (lstD x).bind fun _ => (evEs es o.2).bind fun p => if m.looks = true then
      (Rs.of (view p.2 o.1)).bind fun x => (viewR p.2 p.1).bind fun ds => (blD m x ds).bind fun d => .ok (.va d, p.2)
      else (settleR p.2 p.1).bind fun q => (Rs.of (ownL q.2 o.1)).bind fun xs => (bmD m xs q.1).bind fun r => .ok (.va r.1, setL q.2 r.2 o.1)
  | .lc own tg it cond elt, sl => (evI it sl).bind fun p => if calmS p.2 own = true ∧ p.1.length < sizeLine then
      (lcLoop (fun d sl => (giveT tg d (wipeS sl own)).bind fun sl => (evC cond sl).bind fun c => if c.1 = true then (evE elt c.2).bind fun r => (Rs.of (settle r.2 r.1)).bind fun y => if calmS y.2 own = true then .ok (some y.1, y.2) else .stuck
        else if calmS c.2 own = true then .ok (none, c.2) else .stuck) p.1 p.2).bind fun q =>
        if calmS q.2 own = true then .ok (.fr (.lst q.1), backS p.2 q.2 own) else .stuck else .stuck
  | .lcO i own tg cond elt, sl => (match sl[i]? with
    | some (.ow b (.lst xs)) => if i ∉ own ∧ calmS (sl.set i .un) own = true ∧ xs.length < sizeLine then
      (lcLoop (fun d sl => (giveT tg d (wipeS sl own)).bind fun sl => (evC cond sl).bind fun c => if c.1 = true then (evE elt c.2).bind fun r => (Rs.of (settle r.2 r.1)).bind fun y => if calmS y.2 own = true then .ok (some y.1, y.2) else .stuck
        else if calmS c.2 own = true then .ok (none, c.2) else .stuck) xs (sl.set i .un)).bind fun q =>
        if calmS q.2 own = true ∧ (match q.2[i]? with | some .un => true | _ => false) = true then .ok (.fr (.lst q.1), (backS (sl.set i .un) q.2 own).set i (.ow b (.lst xs))) else .stuck else .stuck
    | _ => .stuck)
  | .tup2 e i, sl => (evE e sl).bind fun p => (Rs.of (settle p.2 p.1)).bind fun q => (match q.2[i]? with
    | some (.ow true (.lst xs)) => .ok (.pr q.1 xs, q.2.set i .un)
    | _ => .stuck)
  | .frz i e, sl => (match sl[i]? with
    | some (.ow _ p) => (evE e ((hidS sl).set i (.va p.d))).bind fun q => if q.1.flat = true then .ok (q.1, sl) else .stuck
    | _ => .stuck)
  | .frzK i j e, sl => (match sl[i]?, sl[j]? with
    | some (.ow _ p), some (.ow b pj) => if i ≠ j then (evE e (((hidS sl).set i (.va p.d)).set j (.ow b pj))).bind fun q => (if q.1.flat = true then (match q.2[j]? with
      | some (.ow b' pj') => if b' = b ∧ pj'.flat = true then .ok (q.1, sl.set j (.ow b' pj')) else .stuck
      | _ => .stuck) else .stuck) else .stuck
    | _, _ => .stuck)
  | .nvr, _ => .stuck
  | .dnewN, sl => .ok (.fr (.dcn []), sl)
  | .ddispN k v, sl => (evE k sl).bind fun p => (evE v p.2).bind fun q => (match p.1, q.1 with
    | .va kd, .va d => (Rs.of (keyN kd)).bind fun kk => .ok (.fr (.dcn [(kk.1, d)]), q.2)
    | _, _ => .stuck)
  | .dgetN i k x, sl => (match sl[i]? with
    | some (.ow _ (.dcn _)) => (evE k sl).bind fun p => (evE x p.2).bind fun q => (match p.1, q.1 with
      | .va kd, .va z => (Rs.of (keyN kd)).bind fun kk => (match q.2[i]? with
        | some (.ow _ (.dcn kvs)) => .ok (.va ((lookN kvs kk.2).getD z), q.2)
        | _ => .stuck)
      | _, _ => .stuck)
    | _ => .stuck)
  | .dnew, sl => .ok (.fr (.dct []), sl)
  | .din i k, sl => (evE k sl).bind fun p => (Rs.of (view p.2 p.1)).bind fun x => (Rs.of (keyOf x)).bind fun ns => (match p.2[i]? with
    | some (.ow _ (.dct kvs)) => .ok (.va (.bl (lookD kvs ns).isSome), p.2)
    | _ => .stuck)
  | .dget i k, sl => (match sl[i]? with
    | some (.ow _ (.dct _)) => (evE k sl).bind fun p => (Rs.of (view p.2 p.1)).bind fun x => (Rs.of (keyOf x)).bind fun ns => (match p.2[i]? with
      | some (.ow _ (.dct kvs)) => .ok (.va ((lookD kvs ns).getD .non), p.2)
      | _ => .stuck)
    | _ => .stuck)
@[simp] def evEs : PEs → Sls → Rs (List Rv × Sls)
  | .nil, sl => .ok ([], sl)
  | .cons e es, sl => (evE e sl).bind fun p => (evEs es p.2).bind fun q => .ok (p.1 :: q.1, q.2)
@[simp] def evO : POpt → Sls → Rs (Option Int × Sls)
  | .none, sl => .ok (none, sl)
  | .some e, sl => (evE e sl).bind fun p => (Rs.of (view p.2 p.1)).bind fun x => (intD x).bind fun i => .ok (some i, p.2)
/-- a comprehension's test -/
@[simp] def evC : POpt → Sls → Rs (Bool × Sls)
  | .none, sl => .ok (true, sl)
  | .some e, sl => evT e sl
/-- a test -/
@[simp] def evT : PE → Sls → Rs (Bool × Sls)
  | .not a, sl => (evT a sl).bind fun p => .ok (!p.1, p.2)
  | .and es, sl => evAndT es sl
  | .or es, sl => evOrT es sl
  | e, sl => (evE e sl).bind fun p => (Rs.of (view p.2 p.1)).bind fun x => (boolD x).bind fun k => .ok (k, p.2)
@[simp] def evAndT : PEs → Sls → Rs (Bool × Sls)
  | .nil, _ => .stuck
  | .cons e .nil, sl => evT e sl
  | .cons e es, sl => (evT e sl).bind fun p => if p.1 = true then evAndT es p.2 else .ok (false, p.2)
@[simp] def evOrT : PEs → Sls → Rs (Bool × Sls)
  | .nil, _ => .stuck
  | .cons e .nil, sl => evT e sl
  | .cons e es, sl => (evT e sl).bind fun p => if p.1 = true then .ok (true, p.2) else evOrT es p.2
@[simp] def evAnd : PEs → Sls → Rs (Rv × Sls)
  | .nil, _ => .stuck
  | .cons e .nil, sl => evE e sl
  | .cons e es, sl => (evE e sl).bind fun p => (Rs.of (view p.2 p.1)).bind fun x => (boolD x).bind fun k => if k = true then evAnd es p.2 else .ok (.va (.bl false), p.2)
@[simp] def evOr : PEs → Sls → Rs (Rv × Sls)
  | .nil, _ => .stuck
  | .cons e .nil, sl => evE e sl
  | .cons e es, sl => (evE e sl).bind fun p => (Rs.of (view p.2 p.1)).bind fun x => (boolD x).bind fun k => if k = true then .ok (.va (.bl true), p.2) else evOr es p.2
/-- what is walked -/
@[simp] def evI : PI → Sls → Rs (List D × Sls)
  | .of e, sl => (evE e sl).bind fun p => (Rs.of (settle p.2 p.1)).bind fun q => (match q.1 with
    | .lst xs => .ok (xs, q.2)
    | .tup xs => .ok (xs, q.2)
    | .scr ns => .ok (ns.map .int, q.2)
    | _ => .stuck)
  | .rng1 a, sl => (evE a sl).bind fun p => (Rs.of (view p.2 p.1)).bind fun x => (intD x).bind fun n => if n < 2 ^ 62 ∧ -(2 ^ 62) ≤ n then .ok (rangeD 0 n, p.2) else .stuck
  | .rng2 a b, sl => (evE a sl).bind fun p => (evE b p.2).bind fun q => (Rs.of (view q.2 p.1)).bind fun x => (Rs.of (view q.2 q.1)).bind fun y => (intD x).bind fun m => (intD y).bind fun n =>
      if -(2 ^ 62) ≤ m ∧ m < 2 ^ 62 ∧ -(2 ^ 62) ≤ n ∧ n < 2 ^ 62 then .ok (rangeD m n, q.2) else .stuck
  | .enum a, sl => (evE a sl).bind fun p => (Rs.of (settle p.2 p.1)).bind fun q => (match q.1 with
    | .lst xs => .ok (xs.zipIdx.map fun z => .tup [.int z.2, z.1], q.2)
    | .tup xs => .ok (xs.zipIdx.map fun z => .tup [.int z.2, z.1], q.2)
    | _ => .stuck)
  | .rev a, sl => (evE a sl).bind fun p => (Rs.of (settle p.2 p.1)).bind fun q => (match q.1 with
    | .lst xs => .ok (xs.reverse, q.2)
    | _ => .stuck)
  | .items a, sl => (evE a sl).bind fun p => (Rs.of (settle p.2 p.1)).bind fun q => (match q.1 with
    | .dcn kvs => .ok (kvs.map fun kv => .tup [.tup kv.1, kv.2], q.2)
    | _ => .stuck)
end
variable (wf : Nat)
mutual
@[simp] def evS : PS → Sls → Rs (Fl × Sls)
  | .asg i e, sl => (evE T cf e sl).bind fun p => (match p.1 with
    | .va d => (setS p.2 i (.va d)).bind fun sl => .ok (.nx, sl)
    | .fr q => (setS p.2 i (.ow true q)).bind fun sl => .ok (.nx, sl)
    | .pr d xs => (setS p.2 i (.va (.tup [d, .lst xs]))).bind fun sl => .ok (.nx, sl)
    | r => (Rs.of (settle p.2 r)).bind fun q => (setS q.2 i (.va q.1)).bind fun sl => .ok (.nx, sl))
  | .asgT is e, sl => (evE T cf e sl).bind fun p => (Rs.of (settle p.2 p.1)).bind fun q => (match q.1 with
    | .tup ds => (setAll q.2 is ds).bind fun sl => .ok (.nx, sl)
    | _ => .stuck)
  | .setix a b e, sl => (evE T cf e sl).bind fun p => (evE T cf a p.2).bind fun o => (evE T cf b o.2).bind fun i => (Rs.of (settle i.2 p.1)).bind fun d => (Rs.of (ownL d.2 o.1)).bind fun xs => (Rs.of (view d.2 i.1)).bind fun k => (intD k).bind fun k =>
      (Rs.of (ixN xs.length k)).bind fun j => .ok (.nx, setL d.2 (xs.set j d.1) o.1)
  | .setfld i c f e, sl => (evE T cf e sl).bind fun p => (Rs.of (settle p.2 p.1)).bind fun q => (match q.2[i]? with
      | some (.ow b (.obj c' fs)) => if c' = c ∧ fs.length < 1000 then .ok (.nx, q.2.set i (.ow b (.obj c (putA f (.fz q.1) fs)))) else .stuck
      | _ => .stuck)
  | .aug i op e, sl => (evE T cf e sl).bind fun p => (Rs.of (view p.2 p.1)).bind fun y => (intD y).bind fun y => (match sl[i]?, op with
    | some (.va (.int x)), .add => (setS p.2 i (.va (.int (x + y)))).bind fun sl => .ok (.nx, sl)
    | some (.va (.int x)), .sub => (setS p.2 i (.va (.int (x - y)))).bind fun sl => .ok (.nx, sl)
    | _, _ => .stuck)
  | .ex e, sl => (evE T cf e sl).bind fun p => .ok (.nx, p.2)
  | .ret e, sl => (evE T cf e sl).bind fun p => (match p.1 with
    | .va d => .ok (.ret (.va d), p.2)
    | .fr q => .ok (.ret (.fr q), p.2)
    | .pr d xs => .ok (.ret (.pr d xs), p.2)
    | .s i => (match p.2[i]? with
      | some (.ow true q) => .ok (.ret (.fr q), p.2.set i .un)
      | some (.va d) => .ok (.ret (.va d), p.2)
      | _ => .stuck))
  | .retN, sl => .ok (.ret (.va .non), sl)
  | .ite c a b, sl => (evT T cf c sl).bind fun p => if p.1 = true then evSs a p.2 else evSs b p.2
  | .for tg it body, sl => (evI T cf it sl).bind fun p => forLoop (fun d sl => (giveT tg d sl).bind fun sl => evSs body sl) p.1 p.2
  | .whl c body, sl => whlLoop (fun sl => evT T cf c sl) (fun sl => evSs body sl) wf sl
  | .pass, sl => .ok (.nx, sl)
  | .doc, sl => .ok (.nx, sl)
  | .asgT2 i j e, sl => (evE T cf e sl).bind fun p => (match p.1 with
    | .pr d xs => (setS p.2 i (.va d)).bind fun sl => (setS sl j (.ow true (.lst xs))).bind fun sl => .ok (.nx, sl)
    | _ => .stuck)
  | .setfldE i c f, sl => (match sl[i]? with
      | some (.ow b (.obj c' fs)) => if c' = c ∧ fs.length < 1000 then .ok (.nx, sl.set i (.ow b (.obj c (putA f (.ol []) fs)))) else .stuck
      | _ => .stuck)
  | .fapp i c f j, sl => (match sl[i]?, sl[j]? with
      | some (.ow b (.obj c' fs)), some (.va d) => if c' = c then (match fs.lookup f with
        | some (.ol xs) => if xs.length < sizeLine then .ok (.nx, sl.set i (.ow b (.obj c (putA f (.ol (xs ++ [d])) fs)))) else .stuck
        | _ => .stuck) else .stuck
      | _, _ => .stuck)
  | .never, _ => .stuck
  | .setkeyN i k e, sl => (evE T cf e sl).bind fun p => (match p.2[i]? with
    | some (.ow _ (.dcn _)) => (evE T cf k p.2).bind fun q => (match p.1, q.1 with
      | .va d, .va kd => (Rs.of (keyN kd)).bind fun kk => (match q.2[i]? with
        | some (.ow b (.dcn kvs)) => if kvs.length < sizeLine then .ok (.nx, q.2.set i (.ow b (.dcn (putN kvs kk.1 kk.2 d)))) else .stuck
        | _ => .stuck)
      | _, _ => .stuck)
    | _ => .stuck)
  | .setkey i k e, sl => (evE T cf e sl).bind fun p => (match p.2[i]? with
    | some (.ow _ (.dct _)) => (evE T cf k p.2).bind fun q => (Rs.of (settle q.2 p.1)).bind fun d => (Rs.of (view q.2 q.1)).bind fun x => (Rs.of (keyOf x)).bind fun ns => (match d.2[i]? with
      | some (.ow b (.dct kvs)) => if kvs.length < sizeLine then .ok (.nx, d.2.set i (.ow b (.dct (putD kvs ns d.1)))) else .stuck
      | _ => .stuck)
    | _ => .stuck)
@[simp] def evSs : PSs → Sls → Rs (Fl × Sls)
  | .nil, sl => .ok (.nx, sl)
  | .cons s ss, sl => (evS s sl).bind fun q => (match q.1 with
    | .nx => evSs ss q.2
    | f => .ok (f, q.2))
end
end
/-- what is left of the parameter that may be changed -/
@[simp] def endIo (io : Option Nat) (sl : Sls) : Rs (Option OP) := match io with
  | none => .ok none
  | some k => match sl[k]? with
    | some (.ow false p) => .ok (some p)
    | _ => .stuck
/-- a def's value, by the depth of calls; pr: the defs whose value is told apart -/
def evF (T : Tab) (pr : Nat → CF) (wf : Nat) : Nat → CF
  | 0, _, _ => .stuck
  | n + 1, f, as => match T f with
    | none => .stuck
    | some d => if as.length = d.np then
        (if d.own = true then (endIo (d.io.findIdx? id) as).bind fun _ => (evSs T (evF T pr wf n) wf d.body (as ++ List.replicate (d.ns - d.np) .un)).bind fun q => (endIo (d.io.findIdx? id) q.2).bind fun p => (match q.1 with
          | .nx => .ok (.va .non, p)
          | .ret r => .ok (r, p)
          | _ => .stuck) else pr n f as) else .stuck
end Pf

/-! Pf2: data in the heap; what frames own -/
namespace Pf
open PySem L2

/-- what data lean on: the written part, the classes' places, the fields' names -/
structure Gx where
  K : PySem.W.Frag
  CA : Nat → Addr
  FN : Nat → Str
  fi : ∀ f g, FN f = FN g → f = g
  P : Program
  w : World

mutual
def Rep (G : Gx) (H : Hp) : V → D → Prop
  | v, .non => v = .non
  | v, .bl b => v = .bl b
  | v, .int i => v = .int i
  | v, .str s => v = .str s
  | v, .lst xs => ∃ a vs, v = .ref a ∧ H a = some (.lst vs) ∧ Reps G H vs xs
  | v, .tup xs => ∃ a vs, v = .ref a ∧ H a = some (.tup vs) ∧ Reps G H vs xs
  | v, .obj c fs => ∃ a dx gs, v = .ref a ∧ H a = some (.ins (G.CA c) dx gs) ∧ RepF G H gs fs
  | v, .scr ns => ∃ a, v = .ref a ∧ SqL G.K H a (ns.map V.int)
  | v, .dct kvs => ∃ a ws, v = .ref a ∧ H a = some (.dT ws) ∧ RepK G H ws kvs
  | v, .dcn kvs => ∃ a o xs, v = .ref a ∧ H a = some (dLO a o) ∧ DLp G.P G.w a o xs ∧ RepN G H xs kvs
def Reps (G : Gx) (H : Hp) : List V → List D → Prop
  | vs, [] => vs = []
  | vs, d :: ds => ∃ v r, vs = v :: r ∧ Rep G H v d ∧ Reps G H r ds
def RepF (G : Gx) (H : Hp) : List (Str × V) → List (Nat × D) → Prop
  | gs, [] => gs = []
  | gs, (f, d) :: fs => ∃ v r, gs = (G.FN f, v) :: r ∧ Rep G H v d ∧ RepF G H r fs
def RepK (G : Gx) (H : Hp) : List (List L2.Key × V) → List (List Int × D) → Prop
  | ws, [] => ws = []
  | ws, (k, d) :: kvs => ∃ v r, ws = (k.map Sum.inl, v) :: r ∧ Rep G H v d ∧ RepK G H r kvs
def RepN (G : Gx) (H : Hp) : List (List Leaf × Addr × Value) → List (List D × D) → Prop
  | xs, [] => xs = []
  | xs, (ks, d) :: kvs => ∃ k q u r vs v, xs = (k, q, u) :: r ∧ Pf.scs ks = some vs ∧ lfVs vs = some k ∧ lfDs ks = some k ∧ H q = some (.tup vs) ∧ RelV v u ∧ Rep G H v d ∧ RepN G H r kvs
end

section
variable {G : Gx} {H H' : Hp}
mutual
theorem Rep.mono (e : Same H H') : ∀ {d : D} {v : V}, Rep G H v d → Rep G H' v d
  | .non, _, h => h
  | .bl _, _, h => h
  | .int _, _, h => h
  | .str _, _, h => h
  | .lst xs, v, h => by
    obtain ⟨a, vs, e1, e2, e3⟩ := h
    exact ⟨a, vs, e1, e _ _ e2, Reps.mono e e3⟩
  | .tup xs, v, h => by
    obtain ⟨a, vs, e1, e2, e3⟩ := h
    exact ⟨a, vs, e1, e _ _ e2, Reps.mono e e3⟩
  | .obj c fs, v, h => by
    obtain ⟨a, dx, gs, e1, e2, e3⟩ := h
    exact ⟨a, dx, gs, e1, e _ _ e2, RepF.mono e e3⟩
  | .scr ns, v, h => by
    obtain ⟨a, e1, e2⟩ := h
    exact ⟨a, e1, e.seq e2⟩
  | .dct kvs, v, h => by
    obtain ⟨a, ws, e1, e2, e3⟩ := h
    exact ⟨a, ws, e1, e _ _ e2, RepK.mono e e3⟩
  | .dcn kvs, v, h => by
    obtain ⟨a, o, xs, e1, e2, e3, e4⟩ := h
    exact ⟨a, o, xs, e1, e _ _ e2, e3, RepN.mono e e4⟩
theorem Reps.mono (e : Same H H') : ∀ {ds : List D} {vs : List V}, Reps G H vs ds → Reps G H' vs ds
  | [], _, h => h
  | d :: ds, vs, h => by
    obtain ⟨v, r, e1, e2, e3⟩ := h
    exact ⟨v, r, e1, Rep.mono e e2, Reps.mono e e3⟩
theorem RepF.mono (e : Same H H') : ∀ {fs : List (Nat × D)} {gs : List (Str × V)}, RepF G H gs fs → RepF G H' gs fs
  | [], _, h => h
  | (f, d) :: fs, gs, h => by
    obtain ⟨v, r, e1, e2, e3⟩ := h
    exact ⟨v, r, e1, Rep.mono e e2, RepF.mono e e3⟩
theorem RepK.mono (e : Same H H') : ∀ {kvs : List (List Int × D)} {ws : List (List L2.Key × V)}, RepK G H ws kvs → RepK G H' ws kvs
  | [], _, h => h
  | (k, d) :: kvs, ws, h => by
    obtain ⟨v, r, e1, e2, e3⟩ := h
    exact ⟨v, r, e1, Rep.mono e e2, RepK.mono e e3⟩
theorem RepN.mono (e : Same H H') : ∀ {kvs : List (List D × D)} {xs : List (List Leaf × Addr × Value)}, RepN G H xs kvs → RepN G H' xs kvs
  | [], _, h => h
  | (ks, d) :: kvs, xs, h => by
    obtain ⟨k, q, u, r, vs, v, e1, e2, e3, e3b, e4, e5, e6, e7⟩ := h
    exact ⟨k, q, u, r, vs, v, e1, e2, e3, e3b, e _ _ e4, e5, Rep.mono e e6, RepN.mono e e7⟩
end
theorem Reps.len : ∀ {ds : List D} {vs : List V}, Reps G H vs ds → vs.length = ds.length
  | [], _, h => by rw [show _ = [] from h]; rfl
  | d :: ds, vs, h => by
    obtain ⟨v, r, e1, _, e3⟩ := h
    subst e1
    rw [List.length_cons, List.length_cons, Reps.len e3]
theorem Reps.app : ∀ {ds es : List D} {vs us : List V}, Reps G H vs ds → Reps G H us es → Reps G H (vs ++ us) (ds ++ es)
  | [], _, vs, us, h, k => by rw [show vs = [] from h]; exact k
  | d :: ds, es, vs, us, h, k => by
    obtain ⟨v, r, e1, e2, e3⟩ := h
    subst e1
    exact ⟨v, r ++ us, rfl, e2, Reps.app e3 k⟩
theorem Reps.get : ∀ {ds : List D} {vs : List V} {i : Nat} {d : D}, Reps G H vs ds → ds[i]? = some d → ∃ v, vs[i]? = some v ∧ Rep G H v d
  | [], _, _, _, _, e => by simp at e
  | x :: ds, vs, 0, d, h, e => by
    obtain ⟨v, r, e1, e2, e3⟩ := h
    subst e1
    simp at e
    subst e
    exact ⟨v, rfl, e2⟩
  | x :: ds, vs, i + 1, d, h, e => by
    obtain ⟨v, r, e1, e2, e3⟩ := h
    subst e1
    obtain ⟨u, q1, q2⟩ := Reps.get (i := i) e3 (by simpa using e)
    exact ⟨u, by simpa using q1, q2⟩
theorem Reps.getV : ∀ {ds : List D} {vs : List V} {i : Nat} {v : V}, Reps G H vs ds → vs[i]? = some v → ∃ d, ds[i]? = some d ∧ Rep G H v d
  | [], vs, _, _, h, e => by rw [show vs = [] from h] at e; simp at e
  | x :: ds, vs, 0, w, h, e => by
    obtain ⟨v, r, e1, e2, e3⟩ := h
    subst e1
    simp at e
    subst e
    exact ⟨x, rfl, e2⟩
  | x :: ds, vs, i + 1, w, h, e => by
    obtain ⟨v, r, e1, e2, e3⟩ := h
    subst e1
    obtain ⟨u, q1, q2⟩ := Reps.getV (i := i) e3 (by simpa using e)
    exact ⟨u, by simpa using q1, q2⟩
theorem Reps.take : ∀ {ds : List D} {vs : List V} (n : Nat), Reps G H vs ds → Reps G H (vs.take n) (ds.take n)
  | _, _, 0, _ => rfl
  | [], vs, n + 1, h => by rw [show vs = [] from h]; rfl
  | d :: ds, vs, n + 1, h => by
    obtain ⟨v, r, e1, e2, e3⟩ := h
    subst e1
    exact ⟨v, r.take n, rfl, e2, Reps.take n e3⟩
theorem Reps.drop : ∀ {ds : List D} {vs : List V} (n : Nat), Reps G H vs ds → Reps G H (vs.drop n) (ds.drop n)
  | _, _, 0, h => h
  | [], vs, n + 1, h => by rw [show vs = [] from h]; rfl
  | d :: ds, vs, n + 1, h => by
    obtain ⟨v, r, e1, e2, e3⟩ := h
    subst e1
    exact Reps.drop n e3
theorem Reps.cut {ds : List D} {vs : List V} (lo hi : Option Int) (h : Reps G H vs ds) : Reps G H (cutV vs lo hi) (cutA ds lo hi) := by
  unfold cutV cutA
  rw [h.len]
  exact (h.drop _).take _
theorem Reps.rev : ∀ {ds : List D} {vs : List V}, Reps G H vs ds → Reps G H vs.reverse ds.reverse
  | [], vs, h => by rw [show vs = [] from h]; rfl
  | d :: ds, vs, h => by
    obtain ⟨v, r, e1, e2, e3⟩ := h
    subst e1
    rw [List.reverse_cons, List.reverse_cons]
    exact Reps.app (Reps.rev e3) ⟨v, [], rfl, e2, rfl⟩
theorem Reps.set {v : V} {d : D} (k : Rep G H v d) : ∀ {ds : List D} {vs : List V} (i : Nat), Reps G H vs ds → Reps G H (vs.set i v) (ds.set i d)
  | [], vs, i, h => by rw [show vs = [] from h]; rfl
  | x :: ds, vs, 0, h => by
    obtain ⟨u, r, e1, e2, e3⟩ := h
    subst e1
    exact ⟨v, r, rfl, k, e3⟩
  | x :: ds, vs, i + 1, h => by
    obtain ⟨u, r, e1, e2, e3⟩ := h
    subst e1
    exact ⟨u, r.set i v, rfl, e2, Reps.set k i e3⟩
theorem Reps.erase : ∀ {ds : List D} {vs : List V} (i : Nat), Reps G H vs ds → Reps G H (vs.eraseIdx i) (ds.eraseIdx i)
  | [], vs, i, h => by rw [show vs = [] from h]; rfl
  | x :: ds, vs, 0, h => by
    obtain ⟨u, r, e1, e2, e3⟩ := h
    subst e1
    exact e3
  | x :: ds, vs, i + 1, h => by
    obtain ⟨u, r, e1, e2, e3⟩ := h
    subst e1
    exact ⟨u, r.eraseIdx i, rfl, e2, Reps.erase i e3⟩
theorem Reps.rep {ds : List D} {vs : List V} (h : Reps G H vs ds) : ∀ k : Nat, Reps G H (List.replicate k vs).flatten (List.replicate k ds).flatten
  | 0 => rfl
  | k + 1 => by
    rw [List.replicate_succ, List.replicate_succ, List.flatten_cons, List.flatten_cons]
    exact h.app (Reps.rep h k)
theorem reps_int : ∀ (ns : List Int), Reps G H (ns.map V.int) (ns.map D.int)
  | [] => rfl
  | n :: ns => ⟨_, _, rfl, rfl, reps_int ns⟩
theorem Reps.ints : ∀ {ds : List D} {vs : List V} {ns : List Int}, Reps G H vs ds → intsD ds = some ns → vs = ns.map V.int
  | [], vs, ns, h, e => by
    rw [show vs = [] from h]
    simp [intsD] at e
    subst e; rfl
  | d :: ds, vs, ns, h, e => by
    obtain ⟨v, r, e1, e2, e3⟩ := h
    subst e1
    cases d with
    | int i =>
      simp only [intsD, Option.map_eq_some_iff] at e
      obtain ⟨ms, q1, q2⟩ := e
      subst q2
      rw [show v = V.int i from e2, Reps.ints e3 q1]; rfl
    | _ => simp [intsD] at e
theorem Reps.bls : ∀ {ds : List D} {vs : List V} {ns : List Bool}, Reps G H vs ds → Pf.bls ds = some ns → vs = ns.map V.bl
  | [], vs, ns, h, e => by
    rw [show vs = [] from h]
    simp [Pf.bls] at e
    subst e; rfl
  | d :: ds, vs, ns, h, e => by
    obtain ⟨v, r, e1, e2, e3⟩ := h
    subst e1
    cases d with
    | bl i =>
      simp only [Pf.bls, Option.map_eq_some_iff] at e
      obtain ⟨ms, q1, q2⟩ := e
      subst q2
      rw [show v = V.bl i from e2, Reps.bls e3 q1]; rfl
    | _ => simp [Pf.bls] at e
theorem Rep.sc {d : D} {v x : V} (h : Rep G H v d) (e : d.sc = some x) : v = x := by
  cases d <;> simp [D.sc] at e <;> subst e <;> exact h
theorem rep_sc {d : D} {x : V} (e : d.sc = some x) : Rep G H x d := by
  cases d <;> simp [D.sc] at e <;> subst e <;> rfl
theorem Reps.scs : ∀ {ds : List D} {vs xs : List V}, Reps G H vs ds → Pf.scs ds = some xs → vs = xs
  | [], vs, xs, h, e => by
    rw [show vs = [] from h]
    simp [Pf.scs] at e
    exact e.symm
  | d :: ds, vs, xs, h, e => by
    obtain ⟨v, r, e1, e2, e3⟩ := h
    subst e1
    unfold Pf.scs at e
    cases q : d.sc with
    | none => rw [q] at e; simp at e
    | some x =>
      cases q2 : Pf.scs ds with
      | none => rw [q, q2] at e; simp at e
      | some ys =>
        rw [q, q2] at e
        simp at e
        subst e
        rw [e2.sc q, Reps.scs e3 q2]
theorem reps_scs : ∀ {ds : List D} {xs : List V}, Pf.scs ds = some xs → Reps G H xs ds
  | [], xs, e => by simp [Pf.scs] at e; exact e
  | d :: ds, xs, e => by
    unfold Pf.scs at e
    cases q : d.sc with
    | none => rw [q] at e; simp at e
    | some x =>
      cases q2 : Pf.scs ds with
      | none => rw [q, q2] at e; simp at e
      | some ys =>
        rw [q, q2] at e
        simp at e
        subst e
        exact ⟨x, ys, rfl, rep_sc q, reps_scs q2⟩
mutual
theorem Rep.dp : ∀ {d : D} {v : V}, Rep G H v d → d.pl = true → Dp G.K H v d.py
  | .non, v, h, _ => by rw [show v = _ from h]; simp only [D.py]; exact .non
  | .bl _, v, h, _ => by rw [show v = _ from h]; simp only [D.py]; exact .bl _
  | .int _, v, h, _ => by rw [show v = _ from h]; simp only [D.py]; exact .int _
  | .str _, v, h, _ => by rw [show v = _ from h]; simp only [D.py]; exact .str _
  | .lst xs, v, h, p => by
    obtain ⟨a, vs, e1, e2, e3⟩ := h
    subst e1
    simp only [D.py]
    exact .lst (SqL.of e2) (Reps.dp e3 (by simpa [D.pl] using p))
  | .tup xs, v, h, p => by
    obtain ⟨a, vs, e1, e2, e3⟩ := h
    subst e1
    simp only [D.py]
    exact .tup (SqT.of e2) (Reps.dp e3 (by simpa [D.pl] using p))
  | .obj _ _, _, _, p => by simp [D.pl] at p
  | .scr _, _, _, p => by simp [D.pl] at p
  | .dct _, _, _, p => by simp [D.pl] at p
  | .dcn _, _, _, p => by simp [D.pl] at p
theorem Reps.dp : ∀ {ds : List D} {vs : List V}, Reps G H vs ds → D.pls ds = true → DpAll G.K H vs (D.pys ds)
  | [], vs, h, _ => by rw [show vs = [] from h]; exact .nil
  | d :: ds, vs, h, p => by
    obtain ⟨v, r, e1, e2, e3⟩ := h
    subst e1
    have p' : d.pl = true ∧ D.pls ds = true := by simpa [D.pls] using p
    exact .cons (Rep.dp e2 p'.1) (Reps.dp e3 p'.2)
end
theorem RepF.look : ∀ {fs : List (Nat × D)} {gs : List (Str × V)} {f : Nat} {d : D}, RepF G H gs fs → fs.lookup f = some d → ∃ v, gs.lookup (G.FN f) = some v ∧ Rep G H v d
  | [], _, _, _, _, e => by simp at e
  | (g, x) :: fs, gs, f, d, h, e => by
    obtain ⟨v, r, e1, e2, e3⟩ := h
    subst e1
    by_cases q : f = g
    · subst q
      simp at e
      subst e
      exact ⟨v, by simp, e2⟩
    · have q1 : (f == g) = false := by simpa using q
      have q2 : (G.FN f == G.FN g) = false := by
        have : G.FN f ≠ G.FN g := fun z => q (G.fi _ _ z)
        simpa using this
      rw [List.lookup_cons, q1] at e
      obtain ⟨u, z1, z2⟩ := RepF.look e3 e
      exact ⟨u, by rw [List.lookup_cons, q2]; exact z1, z2⟩
theorem RepF.names : ∀ {fs : List (Nat × D)} {gs : List (Str × V)}, RepF G H gs fs → gs.map (·.1) = fs.map fun p => G.FN p.1
  | [], gs, h => by rw [show gs = [] from h]; rfl
  | (g, x) :: fs, gs, h => by
    obtain ⟨v, r, e1, e2, e3⟩ := h
    subst e1
    simp [RepF.names e3]
end

/-! ### what is hidden -/
abbrev AS := Addr → Prop
open Classical in
noncomputable def hide (H : Hp) (P : AS) : Hp := fun b => if P b then none else H b
theorem hide_yes {H : Hp} {P : AS} {b : Addr} (h : P b) : hide H P b = none := by unfold hide; rw [if_pos h]
theorem hide_no {H : Hp} {P : AS} {b : Addr} (h : ¬ P b) : hide H P b = H b := by unfold hide; rw [if_neg h]
theorem hide_some {H : Hp} {P : AS} {b : Addr} {o : HO} (h : hide H P b = some o) : ¬ P b ∧ H b = some o := by
  by_cases q : P b
  · rw [hide_yes q] at h; cases h
  · rw [hide_no q] at h; exact ⟨q, h⟩
theorem hide_sub {H : Hp} {P : AS} : Same (hide H P) H := fun b o h => (hide_some h).2
theorem hide_mono {H : Hp} {P P' : AS} (h : ∀ b, P' b → P b) : Same (hide H P) (hide H P') := fun b o e => by
  obtain ⟨n, e⟩ := hide_some e
  rw [hide_no fun z => n (h b z)]
  exact e
/-- a heap that agrees where nothing is hidden -/
theorem hide_same {H H' : Hp} {P P' : AS} (h : ∀ b o, ¬ P b → H b = some o → ¬ P' b ∧ H' b = some o) : Same (hide H P) (hide H' P') := fun b o e => by
  obtain ⟨n, e⟩ := hide_some e
  obtain ⟨n', e'⟩ := h b o n e
  rw [hide_no n']
  exact e'

/-! ### owned things -/
def OwnF (G : Gx) (Hs H : Hp) : List (Nat × F) → List (Str × V) → List Addr → Prop
  | [], gs, B => gs = [] ∧ B = []
  | (f, .fz d) :: fs, gs, B => ∃ v r, gs = (G.FN f, v) :: r ∧ Rep G Hs v d ∧ OwnF G Hs H fs r B
  | (f, .ol ds) :: fs, gs, B => ∃ l vs r B', gs = (G.FN f, .ref l) :: r ∧ B = l :: B' ∧ H l = some (.lst vs) ∧ Reps G Hs vs ds ∧ OwnF G Hs H fs r B'
def Own (G : Gx) (Hs H : Hp) : OP → Addr → List Addr → Prop
  | .lst ds, a, B => B = [a] ∧ ∃ vs, H a = some (.lst vs) ∧ Reps G Hs vs ds
  | .obj c fs, a, B => ∃ dx gs B', B = a :: B' ∧ H a = some (.ins (G.CA c) dx gs) ∧ OwnF G Hs H fs gs B'
  | .dct kvs, a, B => B = [a] ∧ ∃ ws, H a = some (.dT ws) ∧ RepK G Hs ws kvs
  | .dcn kvs, a, B => B = [a] ∧ ∃ o xs, H a = some (dLO a o) ∧ DLp G.P G.w a o xs ∧ RepN G Hs xs kvs
section
variable {G : Gx} {Hs Hs' H H' : Hp}
theorem OwnF.mono (e : Same Hs Hs') : ∀ {fs : List (Nat × F)} {gs : List (Str × V)} {B : List Addr}, (∀ b ∈ B, H' b = H b) → OwnF G Hs H fs gs B → OwnF G Hs' H' fs gs B
  | [], _, _, _, h => h
  | (f, .fz d) :: fs, gs, B, k, h => by
    obtain ⟨v, r, e1, e2, e3⟩ := h
    exact ⟨v, r, e1, e2.mono e, OwnF.mono e k e3⟩
  | (f, .ol ds) :: fs, gs, B, k, h => by
    obtain ⟨l, vs, r, B', e1, e2, e3, e4, e5⟩ := h
    subst e2
    exact ⟨l, vs, r, B', e1, rfl, by rw [k l List.mem_cons_self]; exact e3, e4.mono e, OwnF.mono e (fun b hb => k b (List.mem_cons_of_mem _ hb)) e5⟩
theorem Own.mono (e : Same Hs Hs') {p : OP} {a : Addr} {B : List Addr} (k : ∀ b ∈ B, H' b = H b) (h : Own G Hs H p a B) : Own G Hs' H' p a B := by
  cases p with
  | lst ds =>
    obtain ⟨e1, vs, e2, e3⟩ := h
    subst e1
    exact ⟨rfl, vs, by rw [k a List.mem_cons_self]; exact e2, e3.mono e⟩
  | obj c fs =>
    obtain ⟨dx, gs, B', e1, e2, e3⟩ := h
    subst e1
    exact ⟨dx, gs, B', rfl, by rw [k a List.mem_cons_self]; exact e2, e3.mono e fun b hb => k b (List.mem_cons_of_mem _ hb)⟩
  | dct kvs =>
    obtain ⟨e1, ws, e2, e3⟩ := h
    subst e1
    exact ⟨rfl, ws, by rw [k a List.mem_cons_self]; exact e2, e3.mono e⟩
  | dcn kvs =>
    obtain ⟨e1, o, xs, e2, e3, e4⟩ := h
    subst e1
    exact ⟨rfl, o, xs, by rw [k a List.mem_cons_self]; exact e2, e3, e4.mono e⟩
theorem OwnF.there : ∀ {fs : List (Nat × F)} {gs : List (Str × V)} {B : List Addr}, OwnF G Hs H fs gs B → ∀ b ∈ B, ∃ o, H b = some o
  | [], _, B, h, b, hb => by rw [h.2] at hb; cases hb
  | (f, .fz d) :: fs, gs, B, h, b, hb => by
    obtain ⟨v, r, e1, e2, e3⟩ := h
    exact OwnF.there e3 b hb
  | (f, .ol ds) :: fs, gs, B, h, b, hb => by
    obtain ⟨l, vs, r, B', e1, e2, e3, e4, e5⟩ := h
    subst e2
    rcases List.mem_cons.mp hb with z | z
    · subst z; exact ⟨_, e3⟩
    · exact OwnF.there e5 b z
theorem Own.there {p : OP} {a : Addr} {B : List Addr} (h : Own G Hs H p a B) : ∀ b ∈ B, ∃ o, H b = some o := fun b hb => by
  cases p with
  | lst ds =>
    obtain ⟨e1, vs, e2, e3⟩ := h
    subst e1
    rcases List.mem_cons.mp hb with z | z
    · subst z; exact ⟨_, e2⟩
    · cases z
  | obj c fs =>
    obtain ⟨dx, gs, B', e1, e2, e3⟩ := h
    subst e1
    rcases List.mem_cons.mp hb with z | z
    · subst z; exact ⟨_, e2⟩
    · exact e3.there b z
  | dct kvs =>
    obtain ⟨e1, ws, e2, e3⟩ := h
    subst e1
    rcases List.mem_cons.mp hb with z | z
    · subst z; exact ⟨_, e2⟩
    · cases z
  | dcn kvs =>
    obtain ⟨e1, o, xs, e2, e3, e4⟩ := h
    subst e1
    rcases List.mem_cons.mp hb with z | z
    · subst z; exact ⟨_, e2⟩
    · cases z
theorem OwnF.rep (e : Same Hs Hs') : ∀ {fs : List (Nat × F)} {gs : List (Str × V)} {B : List Addr}, (∀ b ∈ B, ∀ o, H b = some o → Hs' b = some o) → OwnF G Hs H fs gs B → RepF G Hs' gs (fs.map fun p => (p.1, p.2.d))
  | [], _, _, _, h => h.1
  | (f, .fz d) :: fs, gs, B, k, h => by
    obtain ⟨v, r, e1, e2, e3⟩ := h
    exact ⟨v, r, e1, e2.mono e, OwnF.rep e k e3⟩
  | (f, .ol ds) :: fs, gs, B, k, h => by
    obtain ⟨l, vs, r, B', e1, e2, e3, e4, e5⟩ := h
    subst e2
    exact ⟨.ref l, r, e1, ⟨l, vs, rfl, k l List.mem_cons_self _ e3, e4.mono e⟩, OwnF.rep e (fun b hb => k b (List.mem_cons_of_mem _ hb)) e5⟩
/-- an owned thing as data, where its places may be read -/
theorem Own.rep (e : Same Hs Hs') {p : OP} {a : Addr} {B : List Addr} (k : ∀ b ∈ B, ∀ o, H b = some o → Hs' b = some o) (h : Own G Hs H p a B) : Rep G Hs' (.ref a) p.d := by
  cases p with
  | lst ds =>
    obtain ⟨e1, vs, e2, e3⟩ := h
    subst e1
    exact ⟨a, vs, rfl, k a List.mem_cons_self _ e2, e3.mono e⟩
  | obj c fs =>
    obtain ⟨dx, gs, B', e1, e2, e3⟩ := h
    subst e1
    exact ⟨a, dx, gs, rfl, k a List.mem_cons_self _ e2, e3.rep e fun b hb => k b (List.mem_cons_of_mem _ hb)⟩
  | dct kvs =>
    obtain ⟨e1, ws, e2, e3⟩ := h
    subst e1
    exact ⟨a, ws, rfl, k a List.mem_cons_self _ e2, e3.mono e⟩
  | dcn kvs =>
    obtain ⟨e1, o, xs, e2, e3, e4⟩ := h
    subst e1
    exact ⟨a, o, xs, rfl, k a List.mem_cons_self _ e2, e3, e4.mono e⟩
theorem Own.root {p : OP} {a : Addr} {B : List Addr} (h : Own G Hs H p a B) : a ∈ B := by
  cases p with
  | lst ds => rw [h.1]; exact List.mem_cons_self
  | obj c fs =>
    obtain ⟨dx, gs, B', e1, _⟩ := h
    rw [e1]; exact List.mem_cons_self
  | dct kvs => rw [h.1]; exact List.mem_cons_self
  | dcn kvs => rw [h.1]; exact List.mem_cons_self
theorem Own.inj {p : OP} {a a' : Addr} {B : List Addr} (h : Own G Hs H p a B) (h' : Own G Hs H p a' B) : a = a' := by
  cases p with
  | lst ds =>
    have := h.1.symm.trans h'.1
    injection this
  | obj c fs =>
    obtain ⟨dx, gs, B', e1, _⟩ := h
    obtain ⟨dx', gs', B'', e1', _⟩ := h'
    have := e1.symm.trans e1'
    injection this
  | dct kvs =>
    have := h.1.symm.trans h'.1
    injection this
  | dcn kvs =>
    have := h.1.symm.trans h'.1
    injection this
theorem OwnF.look : ∀ {fs : List (Nat × F)} {gs : List (Str × V)} {B : List Addr} {f : Nat} {d : D}, OwnF G Hs H fs gs B → fs.lookup f = some (.fz d) → ∃ v, gs.lookup (G.FN f) = some v ∧ Rep G Hs v d
  | [], _, _, _, _, _, e => by simp at e
  | (g, x) :: fs, gs, B, f, d, h, e => by
    by_cases q : f = g
    · subst q
      simp at e
      subst e
      obtain ⟨v, r, e1, e2, e3⟩ := h
      subst e1
      exact ⟨v, by simp, e2⟩
    · have q1 : (f == g) = false := by simpa using q
      have q2 : (G.FN f == G.FN g) = false := by
        have : G.FN f ≠ G.FN g := fun z => q (G.fi _ _ z)
        simpa using this
      rw [List.lookup_cons, q1] at e
      cases x with
      | fz d' =>
        obtain ⟨v, r, e1, e2, e3⟩ := h
        subst e1
        obtain ⟨u, z1, z2⟩ := OwnF.look e3 e
        exact ⟨u, by rw [List.lookup_cons, q2]; exact z1, z2⟩
      | ol ds =>
        obtain ⟨l, vs, r, B', e1, e2, e3, e4, e5⟩ := h
        subst e1
        obtain ⟨u, z1, z2⟩ := OwnF.look e5 e
        exact ⟨u, by rw [List.lookup_cons, q2]; exact z1, z2⟩
theorem OwnF.names : ∀ {fs : List (Nat × F)} {gs : List (Str × V)} {B : List Addr}, OwnF G Hs H fs gs B → gs.map (·.1) = fs.map fun p => G.FN p.1
  | [], gs, _, h => by rw [h.1]; rfl
  | (f, .fz d) :: fs, gs, B, h => by
    obtain ⟨v, r, e1, e2, e3⟩ := h
    subst e1
    simp [OwnF.names e3]
  | (f, .ol ds) :: fs, gs, B, h => by
    obtain ⟨l, vs, r, B', e1, e2, e3, e4, e5⟩ := h
    subst e1
    simp [OwnF.names e5]
end

/-! ### the state of a frame -/
/-- what callers hide; where the things stand that callers own -/
structure Fx where
  fo : AS
  ro : Nat → Addr
instance : CoeFun Fx (fun _ => Addr → Prop) := ⟨Fx.fo⟩
/-- all that is hidden: what callers hide, what the slots own -/
def Hd (Fo : Fx) (A : Nat → List Addr) : AS := fun b => Fo b ∨ ∃ i, b ∈ A i
structure SR (G : Gx) (Fo : Fx) (H : Hp) (σ : L2.St) (sl : Sls) (A : Nat → List Addr) : Prop where
  len : σ.length = sl.length
  va : ∀ (i : Nat) d, sl[i]? = some (Sl.va d) → ∃ v, σ[i]? = some (some v) ∧ Rep G (hide H (Hd Fo A)) v d
  ow : ∀ (i : Nat) b p, sl[i]? = some (Sl.ow b p) → ∃ a, σ[i]? = some (some (.ref a)) ∧ Own G (hide H (Hd Fo A)) H p a (A i)
  no : ∀ (i : Nat), (∀ b p, sl[i]? ≠ some (Sl.ow b p)) → A i = []
  nd : ∀ i, (A i).Nodup
  dj : ∀ i j x, i ≠ j → x ∈ A i → x ∉ A j
  fd : ∀ i x, x ∈ A i → ¬ Fo x
  fa : ∀ x, Fo x → H x ≠ none
  ro : ∀ (i : Nat) p, sl[i]? = some (Sl.ow false p) → σ[i]? = some (some (.ref (Fo.ro i)))
/-- what may be read as settled -/
noncomputable abbrev vis (H : Hp) (Fo : Fx) (A : Nat → List Addr) : Hp := hide H (Hd Fo A)
def U (Fo : Fx) (B : List Addr) : Fx := ⟨fun x => Fo x ∨ x ∈ B, Fo.ro⟩
theorem fx_eq {a b : Fx} (h : ∀ x, a x ↔ b x) (r : a.ro = b.ro) : a = b := by
  obtain ⟨f, ro⟩ := a
  obtain ⟨g, ro'⟩ := b
  have e : f = g := funext fun x => propext (h x)
  have r' : ro = ro' := r
  subst e; subst r'; rfl
theorem U_nil (Fo : Fx) : U Fo [] = Fo := fx_eq (fun x => by simp [U]) rfl
theorem U_app (Fo : Fx) (B C : List Addr) : U (U Fo B) C = U Fo (B ++ C) := fx_eq (fun x => by simp [U, or_assoc]) rfl
/-- a new pair: settled data, a new owned list -/
def PrR (G : Gx) (Hs H : Hp) (B : List Addr) (v : V) (d : D) (xs : List D) : Prop := ∃ a b v1 vs, v = .ref a ∧ B = [b, a] ∧ H a = some (.tup [v1, .ref b]) ∧ Rep G Hs v1 d ∧ H b = some (.lst vs) ∧ Reps G Hs vs xs
theorem PrR.mono {G : Gx} {Hs Hs' H H' : Hp} {B : List Addr} {v : V} {d : D} {xs : List D} (e : Same Hs Hs') (k : ∀ b ∈ B, H' b = H b) (h : PrR G Hs H B v d xs) : PrR G Hs' H' B v d xs := by
  obtain ⟨a, b, v1, vs, e1, e2, e3, e4, e5, e6⟩ := h
  subst e2
  exact ⟨a, b, v1, vs, e1, rfl, by rw [k a (by simp)]; exact e3, e4.mono e, by rw [k b (by simp)]; exact e5, e6.mono e⟩
theorem PrR.rep {G : Gx} {Hs Hs' H : Hp} {B : List Addr} {v : V} {d : D} {xs : List D} (e : Same Hs Hs') (k : ∀ b ∈ B, ∀ o, H b = some o → Hs' b = some o) (h : PrR G Hs H B v d xs) : Rep G Hs' v (.tup [d, .lst xs]) := by
  obtain ⟨a, b, v1, vs, e1, e2, e3, e4, e5, e6⟩ := h
  subst e1 e2
  exact ⟨a, [v1, .ref b], rfl, k a (by simp) _ e3, v1, [.ref b], rfl, e4.mono e, .ref b, [], rfl, ⟨b, vs, rfl, k b (by simp) _ e5, e6.mono e⟩, rfl⟩
/-- the outcome of an expression: v stands for r; B: the places of a new owned thing -/
def RvR (G : Gx) (Hs H : Hp) (σ : L2.St) (B : List Addr) (v : V) : Rv → Prop
  | .va d => B = [] ∧ Rep G Hs v d
  | .fr p => ∃ a, v = .ref a ∧ Own G Hs H p a B
  | .s i => B = [] ∧ σ[i]? = some (some v)
  | .pr d xs => PrR G Hs H B v d xs
/-- from one state to a later one -/
structure Post (G : Gx) (Fo : Fx) (A : Nat → List Addr) (H : Hp) (B : List Addr) (A' : Nat → List Addr) (H' : Hp) (σ : L2.St) (sl : Sls) : Prop where
  st : SR G (U Fo B) H' σ sl A'
  nd : B.Nodup
  out : ∀ x ∈ B, ¬ Fo x
  ext : Same (vis H Fo A) (vis H' (U Fo B) A')
  fo : ∀ x, Fo x → H' x = H x
section
variable {G : Gx} {Fo : Fx} {A A1 A2 : Nat → List Addr} {H H1 H2 H' : Hp} {σ : L2.St} {sl sl1 sl2 : Sls} {B B1 B2 : List Addr} {v : V} {r : Rv}
theorem Post.refl (S : SR G Fo H σ sl A) : Post G Fo A H [] A H σ sl := ⟨by rw [U_nil]; exact S, List.nodup_nil, (fun _ h => absurd h List.not_mem_nil), by rw [U_nil]; exact Same.refl _, fun _ _ => rfl⟩
theorem Post.trans (a : Post G Fo A H B1 A1 H1 σ sl1) (b : Post G (U Fo B1) A1 H1 B2 A2 H2 σ sl2) : Post G Fo A H (B1 ++ B2) A2 H2 σ sl2 := by
  refine ⟨by rw [← U_app]; exact b.st, List.nodup_append.mpr ⟨a.nd, b.nd, fun x hx y hy e => ?_⟩, fun x hx z => ?_, by rw [← U_app]; exact a.ext.trans b.ext, fun x hx => (b.fo x (.inl hx)).trans (a.fo x hx)⟩
  · subst e; exact b.out x hy (.inr hx)
  · rcases List.mem_append.mp hx with q | q
    · exact a.out x q z
    · exact b.out x q (.inl z)
/-- what stands for r goes on standing for it -/
theorem RvR.later (b : Post G (U Fo B) A1 H1 B2 A2 H2 σ sl2) (h : RvR G (vis H1 (U Fo B) A1) H1 σ B v r) : RvR G (vis H2 (U (U Fo B) B2) A2) H2 σ B v r := by
  cases r with
  | va d => exact ⟨h.1, h.2.mono b.ext⟩
  | fr p =>
    obtain ⟨a, e, o⟩ := h
    exact ⟨a, e, o.mono b.ext fun x hx => b.fo x (.inr hx)⟩
  | s i => exact h
  | pr d xs => exact PrR.mono b.ext (fun x hx => b.fo x (.inr hx)) h
theorem SR.there (S : SR G Fo H σ sl A) {i : Nat} {x : Addr} (h : x ∈ A i) : ∃ o, H x = some o := by
  by_cases q : ∃ b p, sl[i]? = some (Sl.ow b p)
  · obtain ⟨b, p, e⟩ := q
    obtain ⟨a, _, o⟩ := S.ow i b p e
    exact o.there x h
  · rw [S.no i fun b p e => q ⟨b, p, e⟩] at h; cases h
/-- the heap grows; B: new places that are hidden from now on -/
theorem SR.grow (S : SR G Fo H σ sl A) (k : Same H H') (nd : B.Nodup) (new : ∀ x ∈ B, H x = none ∧ H' x ≠ none) : Post G Fo A H B A H' σ sl := by
  have ev : Same (vis H Fo A) (vis H' (U Fo B) A) := hide_same fun b o n e => ⟨fun z => by
    rcases z with (z | z) | z
    · exact n (.inl z)
    · rw [(new b z).1] at e; cases e
    · exact n (.inr z), k b o e⟩
  have keepA : ∀ i, ∀ b ∈ A i, H' b = H b := fun i b hb => by
    obtain ⟨o, e⟩ := S.there hb
    rw [e]; exact k b o e
  have keepF : ∀ x, Fo x → H' x = H x := fun x hx => by
    cases e : H x with
    | none => exact absurd e (S.fa x hx)
    | some o => exact k x o e
  refine ⟨⟨S.len, fun i d e => ?_, fun i b p e => ?_, S.no, S.nd, S.dj, fun i x hx z => ?_, fun x z => ?_, S.ro⟩, nd, fun x hx z => ?_, ev, keepF⟩
  · obtain ⟨w, q1, q2⟩ := S.va i d e
    exact ⟨w, q1, q2.mono ev⟩
  · obtain ⟨a, q1, q2⟩ := S.ow i b p e
    exact ⟨a, q1, q2.mono ev (keepA i)⟩
  · rcases z with z | z
    · exact S.fd i x hx z
    · obtain ⟨o, e⟩ := S.there hx
      rw [(new x z).1] at e; cases e
  · rcases z with z | z
    · rw [keepF x z]; exact S.fa x z
    · exact (new x z).2
  · exact S.fa x z (new x hx).1
/-- places that were hidden are settled -/
theorem SR.open' (S : SR G (U Fo B) H σ sl A) (hB : ∀ x ∈ B, ¬ Fo x) : SR G Fo H σ sl A ∧ Same (vis H (U Fo B) A) (vis H Fo A) ∧ ∀ x ∈ B, ∀ o, H x = some o → vis H Fo A x = some o := by
  have ev : Same (vis H (U Fo B) A) (vis H Fo A) := hide_mono fun b z => by
    rcases z with z | z
    · exact .inl (.inl z)
    · exact .inr z
  refine ⟨⟨S.len, fun i d e => ?_, fun i b p e => ?_, S.no, S.nd, S.dj, fun i x hx z => S.fd i x hx (.inl z), fun x z => S.fa x (.inl z), S.ro⟩, ev, fun x hx o e => ?_⟩
  · obtain ⟨w, q1, q2⟩ := S.va i d e
    exact ⟨w, q1, q2.mono ev⟩
  · obtain ⟨a, q1, q2⟩ := S.ow i b p e
    exact ⟨a, q1, q2.mono ev fun _ _ => rfl⟩
  · show hide H _ x = _
    rw [hide_no fun z => ?_]
    · exact e
    · rcases z with z | ⟨i, z⟩
      · exact hB x hx z
      · exact S.fd i x z (.inr hx)
/-- slot i's own thing is settled -/
def clrA (A : Nat → List Addr) (i : Nat) : Nat → List Addr := fun j => if j = i then [] else A j
theorem clrA_ne {i j : Nat} (h : j ≠ i) : clrA A i j = A j := if_neg h
theorem clrA_eq {i : Nat} : clrA A i i = [] := if_pos rfl
theorem mem_clrA {i j : Nat} {x : Addr} (h : x ∈ clrA A i j) : x ∈ A j ∧ j ≠ i := by
  by_cases q : j = i
  · subst q; rw [clrA_eq] at h; cases h
  · rw [clrA_ne q] at h; exact ⟨h, q⟩
theorem get_set {sl : Sls} {i j : Nat} {x : Sl} {y : Sl} (h : (sl.set i x)[j]? = some y) : (j = i ∧ x = y) ∨ (j ≠ i ∧ sl[j]? = some y) := by
  by_cases q : i = j
  · subst q
    by_cases l : i < sl.length
    · rw [List.getElem?_set_self l] at h
      exact .inl ⟨rfl, Option.some.inj h⟩
    · rw [List.getElem?_eq_none (by simpa using l)] at h; cases h
  · rw [List.getElem?_set_ne q] at h
    exact .inr ⟨fun z => q z.symm, h⟩
theorem SR.freeze (S : SR G Fo H σ sl A) {i : Nat} {b : Bool} {p : OP} (e : sl[i]? = some (Sl.ow b p)) :
    SR G Fo H σ (sl.set i (.va p.d)) (clrA A i) ∧ Same (vis H Fo A) (vis H Fo (clrA A i)) ∧ ∃ a, σ[i]? = some (some (.ref a)) ∧ Rep G (vis H Fo (clrA A i)) (.ref a) p.d := by
  have ev : Same (vis H Fo A) (vis H Fo (clrA A i)) := hide_mono fun x z => by
    rcases z with z | ⟨j, z⟩
    · exact .inl z
    · exact .inr ⟨j, (mem_clrA z).1⟩
  obtain ⟨a, q1, q2⟩ := S.ow i b p e
  have rp : Rep G (vis H Fo (clrA A i)) (.ref a) p.d := q2.rep ev fun x hx o ho => by
    show hide H _ x = _
    rw [hide_no fun z => ?_]
    · exact ho
    · rcases z with z | ⟨j, z⟩
      · exact S.fd i x hx z
      · exact S.dj j i x (mem_clrA z).2 (mem_clrA z).1 hx
  refine ⟨⟨by rw [List.length_set]; exact S.len, fun j d e' => ?_, fun j b' p' e' => ?_, fun j h => ?_, fun j => ?_, fun j k x n hx hy => ?_, fun j x hx => S.fd j x (mem_clrA hx).1, S.fa, fun j p' e' => ?_⟩, ev, a, q1, rp⟩
  · rcases get_set e' with ⟨z, z'⟩ | ⟨z, z'⟩
    · subst z; cases z'
      exact ⟨_, q1, rp⟩
    · obtain ⟨w, w1, w2⟩ := S.va j d z'
      exact ⟨w, w1, w2.mono ev⟩
  · rcases get_set e' with ⟨z, z'⟩ | ⟨z, z'⟩
    · cases z'
    · obtain ⟨w, w1, w2⟩ := S.ow j b' p' z'
      rw [clrA_ne z]
      exact ⟨w, w1, w2.mono ev fun _ _ => rfl⟩
  · by_cases q : j = i
    · subst q; exact clrA_eq
    · rw [clrA_ne q]
      refine S.no j fun b' p' z => h b' p' ?_
      rw [List.getElem?_set_ne (Ne.symm q)]; exact z
  · by_cases q : j = i
    · subst q; rw [clrA_eq]; exact List.nodup_nil
    · rw [clrA_ne q]; exact S.nd j
  · exact S.dj j k x n (mem_clrA hx).1 (mem_clrA hy).1
  · rcases get_set e' with ⟨z, z'⟩ | ⟨z, z'⟩
    · cases z'
    · exact S.ro j p' z'
/-- a slot's name stands for no settled thing any more, or another one -/
theorem SR.setV (S : SR G Fo H σ sl A) {i : Nat} {v : V} {d : D} (hi : i < sl.length) (h : Rep G (vis H Fo A) v d) : SR G Fo H (σ.set i (some v)) (sl.set i (.va d)) (clrA A i) ∧ Same (vis H Fo A) (vis H Fo (clrA A i)) := by
  have ev : Same (vis H Fo A) (vis H Fo (clrA A i)) := hide_mono fun x z => by
    rcases z with z | ⟨j, z⟩
    · exact .inl z
    · exact .inr ⟨j, (mem_clrA z).1⟩
  refine ⟨⟨by rw [List.length_set, List.length_set]; exact S.len, fun j d' e' => ?_, fun j b' p' e' => ?_, fun j h => ?_, fun j => ?_, fun j k x n hx hy => ?_, fun j x hx => S.fd j x (mem_clrA hx).1, S.fa, fun j p' e' => ?_⟩, ev⟩
  · rcases get_set e' with ⟨z, z'⟩ | ⟨z, z'⟩
    · subst z; cases z'
      exact ⟨v, List.getElem?_set_self (by rw [S.len]; exact hi), h.mono ev⟩
    · obtain ⟨w, w1, w2⟩ := S.va j d' z'
      exact ⟨w, by rw [List.getElem?_set_ne (Ne.symm z)]; exact w1, w2.mono ev⟩
  · rcases get_set e' with ⟨z, z'⟩ | ⟨z, z'⟩
    · cases z'
    · obtain ⟨w, w1, w2⟩ := S.ow j b' p' z'
      rw [clrA_ne z]
      exact ⟨w, by rw [List.getElem?_set_ne (Ne.symm z)]; exact w1, w2.mono ev fun _ _ => rfl⟩
  · by_cases q : j = i
    · subst q; exact clrA_eq
    · rw [clrA_ne q]
      refine S.no j fun b' p' z => h b' p' ?_
      rw [List.getElem?_set_ne (Ne.symm q)]; exact z
  · by_cases q : j = i
    · subst q; rw [clrA_eq]; exact List.nodup_nil
    · rw [clrA_ne q]; exact S.nd j
  · exact S.dj j k x n (mem_clrA hx).1 (mem_clrA hy).1
  · rcases get_set e' with ⟨z, z'⟩ | ⟨z, z'⟩
    · cases z'
    · rw [List.getElem?_set_ne (Ne.symm z)]; exact S.ro j p' z'
def putB (A : Nat → List Addr) (i : Nat) (B : List Addr) : Nat → List Addr := fun j => if j = i then B else A j
theorem putB_ne {i j : Nat} {B : List Addr} (h : j ≠ i) : putB A i B j = A j := if_neg h
theorem putB_eq {i : Nat} {B : List Addr} : putB A i B i = B := if_pos rfl
theorem mem_putB {i j : Nat} {x : Addr} (h : x ∈ putB A i B j) : (j = i ∧ x ∈ B) ∨ (j ≠ i ∧ x ∈ A j) := by
  by_cases q : j = i
  · subst q; rw [putB_eq] at h; exact .inl ⟨rfl, h⟩
  · rw [putB_ne q] at h; exact .inr ⟨q, h⟩
/-- a new owned thing comes to slot i -/
theorem SR.setO (S : SR G (U Fo B) H σ sl A) {i : Nat} {p : OP} {a : Addr} (hi : i < sl.length) (nd : B.Nodup) (out : ∀ x ∈ B, ¬ Fo x) (h : Own G (vis H (U Fo B) A) H p a B) :
    SR G Fo H (σ.set i (some (.ref a))) (sl.set i (.ow true p)) (putB A i B) ∧ Same (vis H (U Fo B) A) (vis H Fo (putB A i B)) := by
  have ev : Same (vis H (U Fo B) A) (vis H Fo (putB A i B)) := hide_mono fun x z => by
    rcases z with z | ⟨j, z⟩
    · exact .inl (.inl z)
    · rcases mem_putB z with ⟨_, z⟩ | ⟨_, z⟩
      · exact .inl (.inr z)
      · exact .inr ⟨j, z⟩
  refine ⟨⟨by rw [List.length_set, List.length_set]; exact S.len, fun j d' e' => ?_, fun j b' p' e' => ?_, fun j h => ?_, fun j => ?_, fun j k x n hx hy => ?_, fun j x hx z => ?_, fun x z => S.fa x (.inl z), fun j p' e' => ?_⟩, ev⟩
  · rcases get_set e' with ⟨z, z'⟩ | ⟨z, z'⟩
    · cases z'
    · obtain ⟨w, w1, w2⟩ := S.va j d' z'
      exact ⟨w, by rw [List.getElem?_set_ne (Ne.symm z)]; exact w1, w2.mono ev⟩
  · rcases get_set e' with ⟨z, z'⟩ | ⟨z, z'⟩
    · subst z; cases z'
      rw [putB_eq]
      exact ⟨a, List.getElem?_set_self (by rw [S.len]; exact hi), h.mono ev fun _ _ => rfl⟩
    · obtain ⟨w, w1, w2⟩ := S.ow j b' p' z'
      rw [putB_ne z]
      exact ⟨w, by rw [List.getElem?_set_ne (Ne.symm z)]; exact w1, w2.mono ev fun _ _ => rfl⟩
  · by_cases q : j = i
    · subst q
      exact absurd (List.getElem?_set_self hi) (h _ _)
    · rw [putB_ne q]
      refine S.no j fun b' p' z => h b' p' ?_
      rw [List.getElem?_set_ne (Ne.symm q)]; exact z
  · by_cases q : j = i
    · subst q; rw [putB_eq]; exact nd
    · rw [putB_ne q]; exact S.nd j
  · rcases mem_putB hx with ⟨z1, z2⟩ | ⟨z1, z2⟩
    · rcases mem_putB hy with ⟨y1, y2⟩ | ⟨y1, y2⟩
      · exact n (z1.trans y1.symm)
      · exact S.fd k x y2 (.inr z2)
    · rcases mem_putB hy with ⟨y1, y2⟩ | ⟨y1, y2⟩
      · exact S.fd j x z2 (.inr y2)
      · exact S.dj j k x n z2 y2
  · rcases mem_putB hx with ⟨z1, z2⟩ | ⟨z1, z2⟩
    · exact out x z2 z
    · exact S.fd j x z2 (.inl z)
  · rcases get_set e' with ⟨z, z'⟩ | ⟨z, z'⟩
    · cases z'
    · rw [List.getElem?_set_ne (Ne.symm z)]; exact S.ro j p' z'
/-- slot i's own thing changes in its places (B: its places behind) -/
theorem SR.change (S : SR G Fo H σ sl A) {i : Nat} {b : Bool} {p p' : OP} {a : Addr} {B : List Addr} (e : sl[i]? = some (Sl.ow b p)) (ea : σ[i]? = some (some (.ref a))) (nd : B.Nodup)
    (hB : ∀ x ∈ B, x ∈ A i ∨ (H x = none)) (k : ∀ x o, x ∉ A i → H x = some o → H' x = some o) (h : Own G (vis H' Fo (putB A i B)) H' p' a B) :
    SR G Fo H' σ (sl.set i (.ow b p')) (putB A i B) ∧ Same (vis H Fo A) (vis H' Fo (putB A i B)) ∧ ∀ x, Fo x → H' x = H x := by
  have ev : Same (vis H Fo A) (vis H' Fo (putB A i B)) := hide_same fun x o n q => ⟨fun z => by
    rcases z with z | ⟨j, z⟩
    · exact n (.inl z)
    · rcases mem_putB z with ⟨_, z⟩ | ⟨_, z⟩
      · rcases hB x z with w | w
        · exact n (.inr ⟨i, w⟩)
        · rw [w] at q; cases q
      · exact n (.inr ⟨j, z⟩), k x o (fun z => n (.inr ⟨i, z⟩)) q⟩
  have keep : ∀ j, j ≠ i → ∀ x ∈ A j, H' x = H x := fun j n x hx => by
    obtain ⟨o, q⟩ := S.there hx
    rw [q]; exact k x o (S.dj j i x n hx) q
  have keepF : ∀ x, Fo x → H' x = H x := fun x hx => by
    cases q : H x with
    | none => exact absurd q (S.fa x hx)
    | some o => exact k x o (fun z => S.fd i x z hx) q
  have hi : i < sl.length := (List.getElem?_eq_some_iff.mp e).1
  refine ⟨⟨by rw [List.length_set]; exact S.len, fun j d' e' => ?_, fun j b'' p'' e' => ?_, fun j hh => ?_, fun j => ?_, fun j l x n hx hy => ?_, fun j x hx z => ?_, fun x z => by rw [keepF x z]; exact S.fa x z, fun j p' e' => ?_⟩, ev, keepF⟩
  · rcases get_set e' with ⟨z, z'⟩ | ⟨z, z'⟩
    · cases z'
    · obtain ⟨w, w1, w2⟩ := S.va j d' z'
      exact ⟨w, w1, w2.mono ev⟩
  · rcases get_set e' with ⟨z, z'⟩ | ⟨z, z'⟩
    · subst z; cases z'
      rw [putB_eq]
      exact ⟨a, ea, h⟩
    · obtain ⟨w, w1, w2⟩ := S.ow j b'' p'' z'
      rw [putB_ne z]
      exact ⟨w, w1, w2.mono ev (keep j z)⟩
  · by_cases q : j = i
    · subst q
      exact absurd (List.getElem?_set_self hi) (hh _ _)
    · rw [putB_ne q]
      refine S.no j fun b' p' z => hh b' p' ?_
      rw [List.getElem?_set_ne (Ne.symm q)]; exact z
  · by_cases q : j = i
    · subst q; rw [putB_eq]; exact nd
    · rw [putB_ne q]; exact S.nd j
  · have out : ∀ m, m ≠ i → x ∈ A m → x ∈ B → False := fun m hm h1 h2 => by
      rcases hB x h2 with w | w
      · exact S.dj m i x hm h1 w
      · obtain ⟨o, q⟩ := S.there h1
        rw [w] at q; cases q
    rcases mem_putB hx with ⟨z1, z2⟩ | ⟨z1, z2⟩
    · rcases mem_putB hy with ⟨y1, y2⟩ | ⟨y1, y2⟩
      · exact n (z1.trans y1.symm)
      · exact out l y1 y2 z2
    · rcases mem_putB hy with ⟨y1, y2⟩ | ⟨y1, y2⟩
      · exact out j z1 z2 y2
      · exact S.dj j l x n z2 y2
  · rcases mem_putB hx with ⟨z1, z2⟩ | ⟨z1, z2⟩
    · rcases hB x z2 with w | w
      · exact S.fd i x w z
      · exact S.fa x z w
    · exact S.fd j x z2 z
  · rcases get_set e' with ⟨z, z'⟩ | ⟨z, z'⟩
    · subst z; cases z'
      exact S.ro j p e
    · exact S.ro j p' z'
/-- as it may be read now: its parts are settled -/
def RepV (G : Gx) (Hs H : Hp) (v : V) : D → Prop
  | .lst ds => ∃ a vs, v = .ref a ∧ H a = some (.lst vs) ∧ Reps G Hs vs ds
  | .tup ds => Rep G Hs v (.tup ds)
  | d => Rep G H v d
theorem RepV.rep {Hs : Hp} (e : Same Hs H) {d : D} (h : RepV G Hs H v d) : Rep G H v d := by
  cases d with
  | lst ds =>
    obtain ⟨a, vs, e1, e2, e3⟩ := h
    exact ⟨a, vs, e1, e2, e3.mono e⟩
  | tup ds => exact Rep.mono e h
  | _ => exact h
theorem Rep.toV {Hs : Hp} (e : Same Hs H) {d : D} (h : Rep G Hs v d) : RepV G Hs H v d := by
  cases d with
  | lst ds =>
    obtain ⟨a, vs, e1, e2, e3⟩ := h
    exact ⟨a, vs, e1, e _ _ e2, e3⟩
  | tup ds => exact h
  | _ => exact Rep.mono e h
theorem Own.toV {Hs : Hp} (e : Same Hs H) {p : OP} {a : Addr} (h : Own G Hs H p a B) : RepV G Hs H (.ref a) p.d := by
  cases p with
  | lst ds =>
    obtain ⟨_, vs, e2, e3⟩ := h
    exact ⟨a, vs, rfl, e2, e3⟩
  | obj c fs => exact Own.rep (Hs' := H) e (fun _ _ _ ho => ho) h
  | dct kvs => exact Own.rep (Hs' := H) e (fun _ _ _ ho => ho) h
  | dcn kvs => exact Own.rep (Hs' := H) e (fun _ _ _ ho => ho) h
/-- looked at -/
theorem RvR.view (S : SR G Fo H σ sl A) (h : RvR G (vis H Fo A) H σ B v r) {d : D} (e : Pf.view sl r = some d) : RepV G (vis H Fo A) H v d := by
  cases r with
  | pr _ _ => cases e
  | va d' =>
    have e' : d' = d := Option.some.inj e
    subst e'
    exact h.2.toV hide_sub
  | fr p =>
    have e' : p.d = d := Option.some.inj e
    subst e'
    obtain ⟨a, e1, o⟩ := h
    subst e1
    exact o.toV hide_sub
  | s i =>
    simp only [Pf.view] at e
    split at e
    · rename_i d' q
      cases e
      obtain ⟨w, w1, w2⟩ := S.va i _ q
      rw [h.2] at w1
      cases w1
      exact w2.toV hide_sub
    · rename_i b p q
      cases e
      obtain ⟨w, w1, w2⟩ := S.ow i _ _ q
      rw [h.2] at w1
      cases w1
      exact w2.toV hide_sub
    · cases e
/-- settled -/
theorem RvR.settle (S : SR G (U Fo B) H σ sl A) (out : ∀ x ∈ B, ¬ Fo x) (h : RvR G (vis H (U Fo B) A) H σ B v r) {d : D} {sl' : Sls} (e : Pf.settle sl r = some (d, sl')) :
    ∃ A', SR G Fo H σ sl' A' ∧ Same (vis H (U Fo B) A) (vis H Fo A') ∧ Rep G (vis H Fo A') v d := by
  cases r with
  | pr _ _ => cases e
  | va d' =>
    cases e
    obtain ⟨e1, e2⟩ := h
    obtain ⟨S', ev, _⟩ := S.open' out
    exact ⟨A, S', ev, e2.mono ev⟩
  | fr p =>
    cases e
    obtain ⟨a, e1, o⟩ := h
    subst e1
    obtain ⟨S', ev, op⟩ := S.open' out
    exact ⟨A, S', ev, o.rep ev op⟩
  | s i =>
    obtain ⟨S', ev, _⟩ := S.open' out
    simp only [Pf.settle] at e
    split at e
    · rename_i d' q
      cases e
      obtain ⟨w, w1, w2⟩ := S'.va i _ q
      rw [h.2] at w1
      cases w1
      exact ⟨A, S', ev, w2⟩
    · rename_i p q
      cases e
      obtain ⟨S2, ev2, a, w1, w2⟩ := S'.freeze q
      rw [h.2] at w1
      cases w1
      exact ⟨_, S2, ev.trans ev2, w2⟩
    · cases e
end
end Pf

/-! Pf3: operations on data, as the layer's readings want them -/
namespace Pf
open PySem L2

section
variable {G : Gx} {Fo : Fx} {A : Nat → List Addr} {H : Hp} {σ : L2.St} {sl : Sls}
/-- what a settled value needs -/
theorem out_va (S : SR G Fo H σ sl A) {v : V} {d : D} (h : Rep G (vis H Fo A) v d) : Post G Fo A H [] A H σ sl ∧ RvR G (vis H (U Fo []) A) H σ [] v (.va d) := ⟨Post.refl S, rfl, by rw [U_nil]; exact h⟩
theorem same_upd {H : Hp} {p : Addr} {o : HO} (h : H p = none) : Same H (upd H p o) := fun b u e => by
  rw [upd_ne (ne_of_none e h)]
  exact e
theorem out_lst (S : SR G Fo H σ sl A) {p : Addr} {vs : List V} {ds : List D} (hp : H p = none) (h : Reps G (vis H Fo A) vs ds) :
    Post G Fo A H [p] A (upd H p (.lst vs)) σ sl ∧ RvR G (vis (upd H p (.lst vs)) (U Fo [p]) A) (upd H p (.lst vs)) σ [p] (.ref p) (.fr (.lst ds)) := by
  have P := S.grow (H' := upd H p (.lst vs)) (B := [p]) (same_upd hp) (by simp) fun x hx => by
    have e : x = p := by simpa using hx
    subst e
    exact ⟨hp, by rw [upd_same]; simp⟩
  exact ⟨P, p, rfl, rfl, vs, upd_same, h.mono P.ext⟩
theorem out_tup (S : SR G Fo H σ sl A) {p : Addr} {vs : List V} {ds : List D} (hp : H p = none) (h : Reps G (vis H Fo A) vs ds) :
    Post G Fo A H [] A (upd H p (.tup vs)) σ sl ∧ RvR G (vis (upd H p (.tup vs)) (U Fo []) A) (upd H p (.tup vs)) σ [] (.ref p) (.va (.tup ds)) := by
  have P := S.grow (H' := upd H p (.tup vs)) (B := []) (same_upd hp) List.nodup_nil fun x hx => by cases hx
  refine ⟨P, rfl, p, vs, rfl, ?_, h.mono P.ext⟩
  show hide _ _ p = _
  rw [hide_no fun z => ?_]
  · exact upd_same
  · rcases z with (z | z) | ⟨i, z⟩
    · exact S.fa p z hp
    · cases z
    · obtain ⟨o, e⟩ := S.there z
      rw [hp] at e; cases e
/-- what is wanted behind a step that leaves the slots -/
abbrev Kt (G : Gx) (Fo : Fx) (A : Nat → List Addr) (H : Hp) (σ : L2.St) (sl : Sls) (Q : VK) (r : Rv) : Prop := ∀ H' B v, Post G Fo A H B A H' σ sl → RvR G (vis H' (U Fo B) A) H' σ B v r → Q v H'

/-! ### two-place operations -/
def toOp : BOp → Operator
  | .add => .Add | .sub => .Sub | .mul => .Mult | .fdiv => .FloorDiv | .mod => .Mod | .pow => .Pow
def rBin (K : PySem.W.Frag) : BOp → R2
  | .add => fun x y H Q => rI0 (fun i j => .int (i + j)) x y H Q ∨ (rCat x y H Q ∨ rCatA K x y H Q)
  | .sub => rI0 fun i j => .int (i - j)
  | .mul => fun x y H Q => rI CMul (fun i j => .int (i * j)) x y H Q ∨ rRep x y H Q
  | .fdiv => rI CDiv fun i j => .int (i / j)
  | .mod => rI (fun _ j => 0 < j) fun i j => .int (i % j)
  | .pow => rI CPow fun i j => .int (i ^ j.toNat)
theorem opr_bin (X : Cx) : ∀ op : BOp, OpR X (binaryOp (toOp op)) (rBin X.K op)
  | .add => op_add.or (op_cat.or op_catA)
  | .sub => op_sub
  | .mul => op_mul.or op_rep
  | .fdiv => op_fdiv
  | .mod => op_mod
  | .pow => op_pow
theorem bin_go (S : SR G Fo H σ sl A) {op : BOp} {d1 d2 : D} {x y : V} (h1 : RepV G (vis H Fo A) H x d1) (h2 : RepV G (vis H Fo A) H y d2) {Q : VK} (h : (binD op d1 d2).sat (Kt G Fo A H σ sl Q)) : rBin G.K op x y H Q := by
  have kva : ∀ {v : V} {d : D}, Kt G Fo A H σ sl Q (.va d) → Rep G (vis H Fo A) v d → Q v H := fun {v d} k r => k _ _ _ (out_va S r).1 (out_va S r).2
  have kint : ∀ {n : Int}, Kt G Fo A H σ sl Q (.va (.int n)) → Q (.int n) H := fun {n} k => kva k rfl
  have ite_sat : ∀ {c : Prop} [Decidable c] {r : Rv} {P : Rv → Prop}, (if c then Rs.ok r else Rs.stuck).sat P → c ∧ P r := fun {c _ r P} z => by
    by_cases q : c
    · rw [if_pos q] at z; exact ⟨q, z⟩
    · rw [if_neg q] at z; exact z.elim
  cases op with
  | add =>
    cases d1 <;> cases d2 <;> first | exact (show False from h).elim | skip
    case int.int i j => exact .inl ⟨_, _, h1, h2, kint h⟩
    case lst.lst xs ys =>
      obtain ⟨hz, h⟩ := ite_sat h
      obtain ⟨a, vs, rfl, e2, e3⟩ := h1
      obtain ⟨b, us, rfl, f2, f3⟩ := h2
      refine .inr (.inl ⟨a, b, vs, us, rfl, rfl, e2, f2, by rw [e3.len, f3.len]; exact hz, fun p hp => ?_⟩)
      obtain ⟨P, R⟩ := out_lst S hp (e3.app f3)
      exact h _ _ _ P R
    case tup.tup xs ys =>
      obtain ⟨hz, h⟩ := ite_sat h
      have k1 : Rep G (vis H Fo A) x (.tup xs) := h1
      have k2 : Rep G (vis H Fo A) y (.tup ys) := h2
      obtain ⟨a, vs, rfl, e2, e3⟩ := id k1
      obtain ⟨b, us, rfl, f2, f3⟩ := id k2
      refine .inr (.inr ⟨a, b, vs, us, rfl, rfl, SqT.of (hide_sub _ _ e2), SqT.of (hide_sub _ _ f2), by rw [e3.len, f3.len]; exact hz, fun q => ?_, fun q q' => ?_, fun q q' p hp => ?_⟩)
      · have e4 : xs = [] := by
          have := e3.len
          rw [q] at this
          exact List.eq_nil_of_length_eq_zero this.symm
        subst e4
        exact kva h k2
      · have e4 : ys = [] := by
          have := f3.len
          rw [q'] at this
          exact List.eq_nil_of_length_eq_zero this.symm
        subst e4
        rw [List.append_nil] at h
        exact kva h k1
      · obtain ⟨P, R⟩ := out_tup S hp (e3.app f3)
        exact h _ _ _ P R
  | sub =>
    cases d1 <;> cases d2 <;> first | exact (show False from h).elim | skip
    exact ⟨_, _, h1, h2, kint h⟩
  | mul =>
    cases d1 <;> cases d2 <;> first | exact (show False from h).elim | skip
    case int.int i j =>
      obtain ⟨hz, h⟩ := ite_sat h
      exact .inl ⟨_, _, h1, h2, hz, kint h⟩
    case lst.int xs k =>
      obtain ⟨hz, h⟩ := ite_sat h
      obtain ⟨a, vs, rfl, e2, e3⟩ := h1
      refine .inr ⟨a, k, vs, rfl, h2, e2, hz.1, hz.2.1, by rw [e3.len]; exact hz.2.2, fun p hp => ?_⟩
      obtain ⟨P, R⟩ := out_lst S hp (e3.rep k.toNat)
      exact h _ _ _ P R
  | fdiv =>
    cases d1 <;> cases d2 <;> first | exact (show False from h).elim | skip
    obtain ⟨hz, h⟩ := ite_sat h
    exact ⟨_, _, h1, h2, hz, kint h⟩
  | mod =>
    cases d1 <;> cases d2 <;> first | exact (show False from h).elim | skip
    obtain ⟨hz, h⟩ := ite_sat h
    exact ⟨_, _, h1, h2, hz, kint h⟩
  | pow =>
    cases d1 <;> cases d2 <;> first | exact (show False from h).elim | skip
    obtain ⟨hz, h⟩ := ite_sat h
    exact ⟨_, _, h1, h2, hz, kint h⟩

/-! ### comparisons -/
def toCmp : COp → CmpOp
  | .eq => .Eq | .ne => .NotEq | .lt => .Lt | .le => .LtE | .gt => .Gt | .ge => .GtE | .isin => .In | .notin => .NotIn
def rLtD (K : PySem.W.Frag) : R2 := fun x y H Q => ∃ d e, Dp K H x d ∧ Dp K H y e ∧ PySem.W.alike d e = true ∧ d ≠ .none ∧ d.depth ≤ 60 ∧ Q (.bl (PySem.W.dataLt d e)) H
theorem op_ltD {X : Cx} (hu : X.A.units + 65 < cLine) : OpR X (compareOp .Lt) (rLtD X.K) := by
  intro pins s σ H x y v u Q I rx ry h
  obtain ⟨d, e, hd, he, ha, hn, hz, q⟩ := h
  obtain ⟨as, r1⟩ := Dp.reads I d x v hd rx
  obtain ⟨bs, r2⟩ := Dp.reads I e y u he ry
  have := PySem.W.rcLt_alike d e X.A s v u as bs r1 r2 ha hn (by have := Nat.min_le_left d.depth e.depth; omega)
  exact this _ _ _ _ ⟨.bl _, H, I, rfl, q⟩
def rCmp (K : PySem.W.Frag) : COp → R2
  | .eq => rEqP K
  | .ne => rNeP K
  | .lt => fun x y H Q => rI0 (fun i j => .bl (decide (i < j))) x y H Q ∨ rLtD K x y H Q
  | .le => rI0 fun i j => .bl (decide (i ≤ j))
  | .gt => rI0 fun i j => .bl (decide (j < i))
  | .ge => rI0 fun i j => .bl (decide (j ≤ i))
  | .isin => rInP K false
  | .notin => rInP K true
theorem opr_cmp {X : Cx} (hu : X.A.units + 65 < cLine) : ∀ op : COp, OpR X (compareOp (toCmp op)) (rCmp X.K op)
  | .eq => op_eqP (by omega)
  | .ne => op_neP (by omega)
  | .lt => op_lt.or (op_ltD hu)
  | .le => op_le
  | .gt => op_gt
  | .ge => op_ge
  | .isin => op_inP (by omega)
  | .notin => op_notInP (by omega)
mutual
theorem plain_of : ∀ d : D, d.pl = true → d.py.plain = true
  | .non, _ => by simp only [D.py]; rfl
  | .bl _, _ => by simp only [D.py]; rfl
  | .int _, _ => by simp only [D.py]; rfl
  | .str _, _ => by simp only [D.py]; rfl
  | .lst xs, h => by simp only [D.py, PyData.plain]; exact plains_of xs (by simpa [D.pl] using h)
  | .tup xs, h => by simp only [D.py, PyData.plain]; exact plains_of xs (by simpa [D.pl] using h)
  | .obj _ _, h => by simp [D.pl] at h
  | .scr _, h => by simp [D.pl] at h
  | .dct _, h => by simp [D.pl] at h
  | .dcn _, h => by simp [D.pl] at h
theorem plains_of : ∀ ds : List D, D.pls ds = true → PyData.plainAll (D.pys ds) = true
  | [], _ => by simp only [D.pys]; rfl
  | d :: ds, h => by
    have h' : d.pl = true ∧ D.pls ds = true := by simpa [D.pls] using h
    simp only [D.pys, PyData.plainAll, plain_of d h'.1, plains_of ds h'.2, Bool.and_self]
end
theorem pyT (xs : List D) : (D.tup xs).py = .tuple (D.pys xs) := by simp only [D.py]
theorem pyL (xs : List D) : (D.lst xs).py = .list (D.pys xs) := by simp only [D.py]
theorem RepV.dp {v : V} {d : D} (h : RepV G (vis H Fo A) H v d) (p : d.pl = true) : Dp G.K H v d.py := (h.rep hide_sub).dp p
theorem if_sat {α : Type} {c : Prop} [Decidable c] {r : α} {P : α → Prop} (z : (if c then Rs.ok r else Rs.stuck).sat P) : c ∧ P r := by
  by_cases q : c
  · rw [if_pos q] at z; exact ⟨q, z⟩
  · rw [if_neg q] at z; exact z.elim
theorem if_satR {α : Type} {c : Prop} [Decidable c] {r : Rs α} {P : α → Prop} (z : (if c then r else Rs.stuck).sat P) : c ∧ r.sat P := by
  by_cases q : c
  · rw [if_pos q] at z; exact ⟨q, z⟩
  · rw [if_neg q] at z; exact z.elim
theorem in_go {neg : Bool} {d1 d2 : D} {x y : V} (h1 : RepV G (vis H Fo A) H x d1) (h2 : RepV G (vis H Fo A) H y d2) {P : Bool → Prop} (h : (inD neg d1 d2).sat P) {Q : VK} (k : ∀ b, P b → Q (.bl b) H) : rInP G.K neg x y H Q := by
  cases d2 <;> first | exact (show False from h).elim | skip
  case lst xs =>
    obtain ⟨z, h⟩ := if_sat h
    have e := h2.dp (d := .lst xs) (by simpa [D.pl] using z.2.1)
    rw [pyL] at e
    exact ⟨_, _, h1.dp z.1, .inl e, plain_of _ z.1, plains_of _ z.2.1, z.2.2, k _ h⟩
  case tup xs =>
    obtain ⟨z, h⟩ := if_sat h
    have e := h2.dp (d := .tup xs) (by simpa [D.pl] using z.2.1)
    rw [pyT] at e
    exact ⟨_, _, h1.dp z.1, .inr e, plain_of _ z.1, plains_of _ z.2.1, z.2.2, k _ h⟩
theorem cmp_go {op : COp} {d1 d2 : D} {x y : V} (h1 : RepV G (vis H Fo A) H x d1) (h2 : RepV G (vis H Fo A) H y d2) {P : Bool → Prop} (h : (cmpD op d1 d2).sat P) {Q : VK} (k : ∀ b, P b → Q (.bl b) H) : rCmp G.K op x y H Q := by
  cases op with
  | eq =>
    obtain ⟨z, h⟩ := if_sat (show (if _ then _ else _ : Rs Bool).sat P from h)
    exact ⟨_, _, h1.dp z.1, h2.dp z.2.1, plain_of _ z.1, plain_of _ z.2.1, z.2.2, k _ h⟩
  | ne =>
    have h : (eqD d1 d2).sat fun b => P (!b) := Rs.sat_bind.mp h
    obtain ⟨z, h⟩ := if_sat (show (if _ then _ else _ : Rs Bool).sat _ from h)
    exact ⟨_, _, h1.dp z.1, h2.dp z.2.1, plain_of _ z.1, plain_of _ z.2.1, z.2.2, k _ h⟩
  | lt =>
    cases d1 <;> cases d2 <;> first | exact (show False from h).elim | skip
    case int.int i j => exact .inl ⟨_, _, h1, h2, k _ h⟩
    case tup.tup xs ys =>
      obtain ⟨z, h⟩ := if_sat (show (if _ then _ else _ : Rs Bool).sat P from h)
      have e1 := h1.dp (d := .tup xs) (by simpa [D.pl] using z.1)
      have e2 := h2.dp (d := .tup ys) (by simpa [D.pl] using z.2.1)
      rw [pyT] at e1 e2
      exact .inr ⟨_, _, e1, e2, z.2.2.1, (fun q => by cases q), Nat.le_trans z.2.2.2 (by decide), k _ h⟩
  | le =>
    cases d1 <;> cases d2 <;> first | exact (show False from h).elim | skip
    exact ⟨_, _, h1, h2, k _ h⟩
  | gt =>
    cases d1 <;> cases d2 <;> first | exact (show False from h).elim | skip
    exact ⟨_, _, h1, h2, k _ h⟩
  | ge =>
    cases d1 <;> cases d2 <;> first | exact (show False from h).elim | skip
    exact ⟨_, _, h1, h2, k _ h⟩
  | isin => exact in_go h1 h2 h k
  | notin => exact in_go h1 h2 h k

/-! ### items, slices -/
def rIxA (K : PySem.W.Frag) : R2 := fun x y H Q => rIxL K x y H Q ∨ rIxT K x y H Q
theorem ixr {X : Cx} : IxR X (rIxA X.K) := ix_list.or ix_tup
theorem Reps.atI {Hs : Hp} {ds : List D} {vs : List V} {i : Int} {d : D} (h : Reps G Hs vs ds) (e : L2.atI ds i = some d) : ∃ v, L2.atI vs i = some v ∧ Rep G Hs v d := by
  unfold L2.atI at e ⊢
  rw [h.len]
  cases q : ixN ds.length i with
  | none => rw [q] at e; cases e
  | some j =>
    rw [q] at e
    exact h.get e
theorem ix_go (S : SR G Fo H σ sl A) {d1 d2 : D} {x y : V} (h1 : RepV G (vis H Fo A) H x d1) (h2 : RepV G (vis H Fo A) H y d2) {Q : VK} (h : (ixD d1 d2).sat fun d => Kt G Fo A H σ sl Q (.va d)) : rIxA G.K x y H Q := by
  have kva : ∀ {v : V} {d : D}, Kt G Fo A H σ sl Q (.va d) → Rep G (vis H Fo A) v d → Q v H := fun {v d} k r => k _ _ _ (out_va S r).1 (out_va S r).2
  cases d1 <;> cases d2 <;> first | exact (show False from h).elim | skip
  case lst.int xs i =>
    obtain ⟨d, e, h⟩ := Rs.of_sat h
    obtain ⟨a, vs, rfl, e2, e3⟩ := h1
    obtain ⟨v, q1, q2⟩ := e3.atI e
    exact .inl ⟨a, vs, i, v, rfl, h2, SqL.of e2, q1, kva h q2⟩
  case tup.int xs i =>
    obtain ⟨d, e, h⟩ := Rs.of_sat h
    have k1 : Rep G (vis H Fo A) x (.tup xs) := h1
    obtain ⟨a, vs, rfl, e2, e3⟩ := k1
    obtain ⟨v, q1, q2⟩ := e3.atI e
    exact .inr ⟨a, vs, i, v, rfl, h2, SqT.of (hide_sub _ _ e2), q1, kva h q2⟩
def rSlD (K : PySem.W.Frag) : V → Option Int → Option Int → Hp → VK → Prop := fun x lo hi H Q => rSlL K x lo hi H Q ∨ rSlA K x lo hi H Q
theorem slr {X : Cx} : SlR X (rSlD X.K) := sl_list.or sl_tupA
theorem sl_go (S : SR G Fo H σ sl A) {d1 : D} {x : V} {lo hi : Option Int} (h1 : RepV G (vis H Fo A) H x d1) {Q : VK} (h : (slD d1 lo hi).sat (Kt G Fo A H σ sl Q)) : rSlD G.K x lo hi H Q := by
  have kva : ∀ {v : V} {d : D}, Kt G Fo A H σ sl Q (.va d) → Rep G (vis H Fo A) v d → Q v H := fun {v d} k r => k _ _ _ (out_va S r).1 (out_va S r).2
  cases d1 <;> first | exact (show False from h).elim | skip
  case lst xs =>
    obtain ⟨a, vs, rfl, e2, e3⟩ := h1
    refine .inl ⟨a, vs, rfl, SqL.of e2, fun p hp => ?_⟩
    obtain ⟨P, R⟩ := out_lst S hp (e3.cut lo hi)
    exact h _ _ _ P R
  case tup xs =>
    have k1 : Rep G (vis H Fo A) x (.tup xs) := h1
    obtain ⟨a, vs, rfl, e2, e3⟩ := id k1
    refine .inr ⟨a, vs, rfl, SqT.of (hide_sub _ _ e2), fun z => ?_, fun z p hp => ?_⟩
    · have e : cutA xs lo hi = xs := by
        unfold cutA
        rw [← e3.len, z.1, z.2, Nat.sub_zero, List.drop_zero, e3.len, List.take_length]
      have h' : Kt G Fo A H σ sl Q (.va (.tup (cutA xs lo hi))) := h
      rw [e] at h'
      exact kva h' k1
    · obtain ⟨P, R⟩ := out_tup S hp (e3.cut lo hi)
      exact h _ _ _ P R
end
end Pf

/-! Pf4: built-in functions, methods of lists -/
namespace Pf
open PySem L2
def RepVs (G : Gx) (Hs H : Hp) : List V → List D → Prop
  | vs, [] => vs = []
  | vs, d :: ds => ∃ v r, vs = v :: r ∧ RepV G Hs H v d ∧ RepVs G Hs H r ds
def Bi.fn : Bi → Value
  | .len => .builtin "len" | .abs => .builtin "abs" | .int => .type "int" | .list => .type "list" | .tuple => .type "tuple" | .sum => .builtin "sum"
  | .max1 => .builtin "max" | .max2 => .builtin "max" | .min2 => .builtin "min" | .all => .builtin "all" | .sorted => .builtin "sorted"
  | .isI => .builtin "isinstance" | .isB => .builtin "isinstance" | .isS => .builtin "isinstance" | .isT => .builtin "isinstance" | .isL => .builtin "isinstance"
  | _ => .none
def Bi.nm : Bi → Str
  | .len => "len" | .abs => "abs" | .int => "int" | .list => "list" | .tuple => "tuple" | .sum => "sum"
  | .max1 => "max" | .max2 => "max" | .min2 => "min" | .all => "all" | .sorted => "sorted"
  | .isI => "isinstance" | .isB => "isinstance" | .isS => "isinstance" | .isT => "isinstance" | .isL => "isinstance"
  | _ => ""
def Bi.ty : Bi → Option String
  | .isI => some "int" | .isB => some "bool" | .isS => some "str" | .isT => some "tuple" | .isL => some "list"
  | _ => none
def Bi.plain : Bi → Bool
  | .len => true | .abs => true | .int => true | .list => true | .tuple => true | .sum => true | .max1 => true | .max2 => true | .min2 => true | .all => true | .sorted => true
  | _ => false
def rBi (K : PySem.W.Frag) : Bi → List V → Hp → VK → Prop
  | .len => fun xs H Q => ∃ p ys, xs = [.ref p] ∧ (SqL K H p ys ∨ SqT K H p ys) ∧ Q (.int ys.length) H
  | .abs => fun xs H Q => ∃ i, xs = [.int i] ∧ Q (.int (if i < 0 then -i else i)) H
  | .int => fun xs H Q => (∃ i, xs = [.int i] ∧ Q (.int i) H) ∨ ∃ k, xs = [.bl k] ∧ Q (.int (if k then 1 else 0)) H
  | .list => fun xs H Q => ∃ p ys, xs = [.ref p] ∧ (SqL K H p ys ∨ SqT K H p ys) ∧ ∀ l, H l = none → Q (.ref l) (upd H l (.lst ys))
  | .tuple => fun xs H Q => ∃ p ys, xs = [.ref p] ∧ ((SqL K H p ys ∧ ∀ l, H l = none → Q (.ref l) (upd H l (.tup ys))) ∨ (SqT K H p ys ∧ Q (.ref p) H))
  | .sum => rSum K
  | .max1 => rMax K
  | .max2 => fun xs H Q => ∃ i j, xs = [.int i, .int j] ∧ Q (.int (if j > i then j else i)) H
  | .min2 => fun xs H Q => ∃ i j, xs = [.int i, .int j] ∧ Q (.int (if j < i then j else i)) H
  | .all => rAll K
  | .sorted => fun xs H Q => rSortedI K xs H Q ∨ rSortedIT K xs H Q
  | .isI => rIsi K | .isB => rIsi K | .isS => rIsi K | .isT => rIsi K | .isL => rIsi K
  | _ => fun _ _ _ => False
theorem crBi {X : Cx} (hc : X.calm = true) : ∀ b : Bi, CallR X b.fn (rBi X.K b)
  | .len => call_len_seq
  | .abs => call_abs
  | .int => call_int1
  | .list => call_list_of
  | .tuple => call_tuple_of
  | .sum => cr_sum hc
  | .max1 => cr_max hc
  | .max2 => call_max2 hc
  | .min2 => call_min2 hc
  | .all => cr_all hc
  | .sorted => fun pins s σ H vs us Q I r h => h.elim (cr_sortedI pins s σ H vs us Q I r) (cr_sortedIT pins s σ H vs us Q I r)
  | .isI => call_isi
  | .isB => call_isi
  | .isS => call_isi
  | .isT => call_isi
  | .isL => call_isi
  | .sortedSet => fun _ _ _ _ _ _ _ _ _ h => h.elim
  | .lenSet => fun _ _ _ _ _ _ _ _ _ h => h.elim
  | .listRange => fun _ _ _ _ _ _ _ _ _ h => h.elim
  | .tupRange => fun _ _ _ _ _ _ _ _ _ h => h.elim
  | .listRev => fun _ _ _ _ _ _ _ _ _ h => h.elim
theorem maxI_eq : ∀ (ns : List Int) (m : Int), m ∈ ns → (∀ y ∈ ns, y ≤ m) → maxI ns = m
  | [], _, h, _ => by cases h
  | [x], m, h, k => by
    have : m = x := by simpa using h
    simp [maxI, this]
  | x :: y :: r, m, h, k => by
    have key : ∀ l : List Int, l ≠ [] → maxI l ∈ l ∧ ∀ z ∈ l, z ≤ maxI l := by
      intro l
      induction l with
      | nil => intro q; exact absurd rfl q
      | cons a l ih =>
        intro _
        cases l with
        | nil => simp [maxI]
        | cons b l =>
          obtain ⟨i1, i2⟩ := ih (by simp)
          have e : maxI (a :: b :: l) = if maxI (b :: l) > a then maxI (b :: l) else a := rfl
          rw [e]
          split
          · refine ⟨List.mem_cons_of_mem _ i1, fun z hz => ?_⟩
            rcases List.mem_cons.mp hz with q | q
            · subst q; omega
            · exact i2 z q
          · refine ⟨List.mem_cons_self, fun z hz => ?_⟩
            rcases List.mem_cons.mp hz with q | q
            · subst q; omega
            · have := i2 z q; omega
    obtain ⟨k1, k2⟩ := key (x :: y :: r) (by simp)
    have a := k _ k1
    have b := k2 _ h
    omega
theorem sortI_eq {ns ns' : List Int} (h : ns'.Perm ns) (k : ns'.Pairwise (· ≤ ·)) : ns' = sortI ns := by
  have p : (sortI ns).Perm ns := List.mergeSort_perm _ _
  have s : (sortI ns).Pairwise (fun a b => a ≤ b) := by
    have := List.pairwise_mergeSort (le := fun a b : Int => decide (a ≤ b)) (fun a b c h1 h2 => by simp at *; omega) (fun a b => by simp; omega) ns
    simpa [sortI] using this
  exact List.Perm.eq_of_pairwise (fun a b _ _ h1 h2 => by omega) k s (h.trans p.symm)
section
variable {G : Gx} {Fo : Fx} {A : Nat → List Addr} {H : Hp} {σ : L2.St} {sl : Sls}
theorem rv1 {Hs : Hp} {vs : List V} {d : D} (h : RepVs G Hs H vs [d]) : ∃ v, vs = [v] ∧ RepV G Hs H v d := by
  obtain ⟨v, r, e, h1, h2⟩ := h
  rw [show r = [] from h2] at e
  exact ⟨v, e, h1⟩
theorem rv2 {Hs : Hp} {vs : List V} {d e : D} (h : RepVs G Hs H vs [d, e]) : ∃ v w, vs = [v, w] ∧ RepV G Hs H v d ∧ RepV G Hs H w e := by
  obtain ⟨v, r, e1, h1, h2⟩ := h
  obtain ⟨w, e2, h3⟩ := rv1 h2
  subst e2
  exact ⟨v, w, e1, h1, h3⟩
theorem RepV.seq {x : V} {ds : List D} (h : RepV G (vis H Fo A) H x (.lst ds)) : ∃ p ys, x = .ref p ∧ H p = some (.lst ys) ∧ Reps G (vis H Fo A) ys ds := h
theorem RepV.tupq {x : V} {ds : List D} (h : RepV G (vis H Fo A) H x (.tup ds)) : ∃ p ys, x = .ref p ∧ H p = some (.tup ys) ∧ Reps G (vis H Fo A) ys ds := by
  obtain ⟨p, ys, e1, e2, e3⟩ := (show Rep G (vis H Fo A) x (.tup ds) from h)
  exact ⟨p, ys, e1, hide_sub _ _ e2, e3⟩
def tyN : D → Option String
  | .non => some "NoneType" | .bl _ => some "bool" | .int _ => some "int" | .str _ => some "str" | .lst _ => some "list" | .tup _ => some "tuple"
  | _ => none
theorem ty_of {d : D} {x : V} (h : RepV G (vis H Fo A) H x d) {t : String} (e : tyN d = some t) : TyX G.K H x (.type t) := by
  cases d <;> cases e
  case non => have q : x = _ := h; subst q; exact .base .non
  case bl b => have q : x = _ := h; subst q; exact .base (.bl b)
  case int b => have q : x = _ := h; subst q; exact .base (.int b)
  case str b => have q : x = _ := h; subst q; exact .base (.str b)
  case lst xs =>
    obtain ⟨p, ys, e1, e2, _⟩ := RepV.seq h
    subst e1
    exact .base (.lst e2)
  case tup xs =>
    obtain ⟨p, ys, e1, e2, _⟩ := RepV.tupq h
    subst e1
    exact .base (.tup e2)
/-- isinstance(x, T) -/
theorem isi_go {b : Bi} {T : String} (hb : b.ty = some T) {d : D} {x : V} (h1 : RepV G (vis H Fo A) H x d) (S : SR G Fo H σ sl A) {Q : VK} (h : (biD b [d]).sat (Kt G Fo A H σ sl Q)) : rIsi G.K [x, .ty T] H Q := by
  have kva : ∀ {v : V} {d : D}, Kt G Fo A H σ sl Q (.va d) → Rep G (vis H Fo A) v d → Q v H := fun {v d} k r => k _ _ _ (out_va S r).1 (out_va S r).2
  have mk : ∀ {t : String} {r : Bool}, TyX G.K H x (.type t) → kitB t T = some r → Kt G Fo A H σ sl Q (.va (.bl r)) → rIsi G.K [x, .ty T] H Q := fun {t r} e kb k =>
    ⟨x, .ty T, _, _, r, rfl, .ty T, e, kit_ty kb, kva k rfl⟩
  cases b <;> first | (cases hb; done) | skip
  all_goals
    cases hb
    cases d <;> first
      | exact (show False from h).elim
      | exact mk (ty_of h1 rfl) (by decide +kernel) h
theorem bi_go (S : SR G Fo H σ sl A) {b : Bi} (hb : b.plain = true) {ds : List D} {vs : List V} (hv : RepVs G (vis H Fo A) H vs ds) {Q : VK} (h : (biD b ds).sat (Kt G Fo A H σ sl Q)) : rBi G.K b vs H Q := by
  have kva : ∀ {v : V} {d : D}, Kt G Fo A H σ sl Q (.va d) → Rep G (vis H Fo A) v d → Q v H := fun {v d} k r => k _ _ _ (out_va S r).1 (out_va S r).2
  have klst : ∀ {ys : List V} {xs : List D}, Kt G Fo A H σ sl Q (.fr (.lst xs)) → Reps G (vis H Fo A) ys xs → ∀ l, H l = none → Q (.ref l) (upd H l (.lst ys)) := fun {ys xs} k r l hl => by
    obtain ⟨P, R⟩ := out_lst S hl r
    exact k _ _ _ P R
  match ds, hv with
  | [], hv => cases b <;> first | exact (show False from h).elim | (cases hb; done)
  | [d], hv =>
    obtain ⟨x, rfl, h1⟩ := rv1 hv
    cases b <;> first | (cases hb; done) | skip
    case len =>
      cases d <;> first | exact (show False from h).elim | skip
      · obtain ⟨p, ys, rfl, e2, e3⟩ := RepV.seq h1
        refine ⟨p, ys, rfl, .inl (SqL.of e2), ?_⟩
        rw [e3.len]
        exact kva h rfl
      · obtain ⟨p, ys, rfl, e2, e3⟩ := RepV.tupq h1
        refine ⟨p, ys, rfl, .inr (SqT.of e2), ?_⟩
        rw [e3.len]
        exact kva h rfl
    case abs =>
      cases d <;> first | exact (show False from h).elim | skip
      exact ⟨_, by rw [show x = _ from h1], kva h rfl⟩
    case int =>
      cases d <;> first | exact (show False from h).elim | skip
      · exact .inr ⟨_, by rw [show x = _ from h1], kva h rfl⟩
      · exact .inl ⟨_, by rw [show x = _ from h1], kva h rfl⟩
    case list =>
      cases d <;> first | exact (show False from h).elim | skip
      · obtain ⟨p, ys, rfl, e2, e3⟩ := RepV.seq h1
        exact ⟨p, ys, rfl, .inl (SqL.of e2), klst h e3⟩
      · obtain ⟨p, ys, rfl, e2, e3⟩ := RepV.tupq h1
        exact ⟨p, ys, rfl, .inr (SqT.of e2), klst h e3⟩
    case tuple =>
      cases d <;> first | exact (show False from h).elim | skip
      · obtain ⟨p, ys, rfl, e2, e3⟩ := RepV.seq h1
        refine ⟨p, ys, rfl, .inl ⟨SqL.of e2, fun l hl => ?_⟩⟩
        obtain ⟨P, R⟩ := out_tup S hl e3
        exact h _ _ _ P R
      · obtain ⟨p, ys, rfl, e2, e3⟩ := RepV.tupq h1
        exact ⟨p, ys, rfl, .inr ⟨SqT.of e2, kva h h1⟩⟩
    case sum =>
      cases d <;> first | exact (show False from h).elim | skip
      obtain ⟨p, ys, rfl, e2, e3⟩ := RepV.seq h1
      obtain ⟨ns, e, h⟩ := Rs.of_sat (Rs.sat_bind.mp h)
      have := e3.ints e
      subst this
      exact ⟨p, ns, rfl, SqL.of e2, kva h rfl⟩
    case max1 =>
      cases d <;> first | exact (show False from h).elim | skip
      obtain ⟨p, ys, rfl, e2, e3⟩ := RepV.seq h1
      obtain ⟨ns, e, h⟩ := Rs.of_sat (Rs.sat_bind.mp h)
      obtain ⟨hz, h⟩ := if_sat h
      have := e3.ints e
      subst this
      exact ⟨p, ns, rfl, SqL.of e2, hz, fun m h1 h2 => by rw [← maxI_eq ns m h1 h2]; exact kva h rfl⟩
    case max2 => cases d <;> exact (show False from h).elim
    case min2 => cases d <;> exact (show False from h).elim
    case all =>
      cases d <;> first | exact (show False from h).elim | skip
      obtain ⟨p, ys, rfl, e2, e3⟩ := RepV.seq h1
      obtain ⟨ns, e, h⟩ := Rs.of_sat (Rs.sat_bind.mp h)
      have := e3.bls e
      subst this
      exact ⟨p, ns, rfl, SqL.of e2, kva h rfl⟩
    case sorted =>
      cases d <;> first | exact (show False from h).elim | skip
      · obtain ⟨p, ys, rfl, e2, e3⟩ := RepV.seq h1
        obtain ⟨ns, e, h⟩ := Rs.of_sat (Rs.sat_bind.mp h)
        have := e3.ints e
        subst this
        refine .inl ⟨p, ns, rfl, SqL.of e2, fun ns' q hp hs hq => ?_⟩
        rw [sortI_eq hp hs]
        exact klst h (reps_int _) q hq
      · obtain ⟨p, ys, rfl, e2, e3⟩ := RepV.tupq h1
        obtain ⟨ns, e, h⟩ := Rs.of_sat (Rs.sat_bind.mp h)
        have := e3.ints e
        subst this
        refine .inr ⟨p, ns, rfl, SqT.of e2, fun ns' q hp hs hq => ?_⟩
        rw [sortI_eq hp hs]
        exact klst h (reps_int _) q hq
  | [d, e], hv =>
    obtain ⟨x, y, rfl, h1, h2⟩ := rv2 hv
    cases b <;> first | (cases hb; done) | skip
    case max2 =>
      cases d <;> cases e <;> first | exact (show False from h).elim | skip
      exact ⟨_, _, by rw [show x = _ from h1, show y = _ from h2], kva h rfl⟩
    case min2 =>
      cases d <;> cases e <;> first | exact (show False from h).elim | skip
      exact ⟨_, _, by rw [show x = _ from h1, show y = _ from h2], kva h rfl⟩
    all_goals first | exact (show False from h).elim | (cases d <;> first | exact (show False from h).elim | (cases e <;> exact (show False from h).elim))
  | d :: e :: f :: r, hv => cases b <;> first | (cases hb; done) | exact (show False from h).elim | (cases d <;> first | exact (show False from h).elim | (cases e <;> exact (show False from h).elim))

/-! ### methods of lists -/
def Bm.nm : Bm → Str
  | .append => "append" | .extend => "extend" | .insert => "insert" | .pop1 => "pop" | .remove => "remove" | .clear => "clear" | .index => "index" | .count => "count"
def Bm.id : Bm → String
  | .append => "list.append" | .extend => "list.extend" | .insert => "list.insert" | .pop1 => "list.pop" | .remove => "list.remove" | .clear => "list.clear" | .index => "list.index" | .count => "list.count"
def rBm (K : PySem.W.Frag) : Bm → V → List V → Hp → VK → Prop
  | .append => rAppend
  | .extend => fun x vs H Q => rExtend x vs H Q ∨ rExtendT K x vs H Q
  | .insert => fun x vs H Q => ∃ (l : Addr) (xs : List V) (i : Int) (y : V), x = .ref l ∧ vs = [.int i, y] ∧ H l = some (.lst xs) ∧ xs.length < sizeLine ∧ 0 ≤ i ∧ i < 2 ^ 63 ∧
    Q .non (upd H l (.lst (xs.take i.toNat ++ [y] ++ xs.drop i.toNat)))
  | .pop1 => rPopAt
  | .remove => rRemP K
  | .clear => rClear
  | .index => rIndexP K
  | .count => rCntI K
theorem mtBm {X : Cx} (hu : X.A.units + 64 < cLine) : ∀ m : Bm, MtR X m.id (rBm X.K m)
  | .append => mt_append
  | .extend => MtR.or mt_extend mt_extendT
  | .insert => mt_insert
  | .pop1 => mt_popAt
  | .remove => mt_remP hu
  | .clear => mt_clear
  | .index => mt_indexP hu
  | .count => mt_lcount
theorem tyBm {T : PySem.W.Frag} {x : V} {ds : List D} (h : RepV G (vis H Fo A) H x (.lst ds)) : tyV T "list" x H := by
  obtain ⟨p, ys, rfl, e2, _⟩ := RepV.seq h
  exact Or.inl ⟨rfl, _, SqL.of e2⟩
theorem bl_go (S : SR G Fo H σ sl A) {m : Bm} {d : D} {x : V} {ds : List D} {vs : List V} (h1 : RepV G (vis H Fo A) H x d) (hv : RepVs G (vis H Fo A) H vs ds) {Q : VK} (h : (blD m d ds).sat fun y => Kt G Fo A H σ sl Q (.va y)) : tyV G.K "list" x H ∧ rBm G.K m x vs H Q := by
  have kva : ∀ {v : V} {d : D}, Kt G Fo A H σ sl Q (.va d) → Rep G (vis H Fo A) v d → Q v H := fun {v d} k r => k _ _ _ (out_va S r).1 (out_va S r).2
  cases m <;> first | exact (show False from h).elim | skip
  case index =>
    cases d <;> first | exact (show False from h).elim | skip
    rename_i xs
    match ds, hv with
    | [], _ => exact (show False from h).elim
    | _ :: _ :: _, _ => exact (show False from h).elim
    | [d], hv =>
      obtain ⟨y, rfl, h2⟩ := rv1 hv
      refine ⟨tyBm h1, ?_⟩
      obtain ⟨z, h⟩ := if_satR (show (if _ then _ else _ : Rs D).sat _ from h)
      obtain ⟨j, e, h⟩ := Rs.of_sat (Rs.sat_bind.mp h)
      have e1 := h1.dp (d := .lst xs) (by simpa [D.pl] using z.2.1)
      rw [pyL] at e1
      obtain ⟨p, ys, rfl, e2, _⟩ := RepV.seq h1
      exact ⟨p, y, _, _, j, rfl, rfl, e1, h2.dp z.1, plains_of _ z.2.1, plain_of _ z.1, z.2.2, e, kva h rfl⟩
  case count =>
    cases d <;> first | exact (show False from h).elim | skip
    rename_i xs
    match ds, hv with
    | [], _ => exact (show False from h).elim
    | d :: _ :: _, _ => cases d <;> exact (show False from h).elim
    | [d], hv =>
      cases d <;> first | exact (show False from h).elim | skip
      obtain ⟨y, rfl, h2⟩ := rv1 hv
      refine ⟨tyBm h1, ?_⟩
      obtain ⟨ns, e, h⟩ := Rs.of_sat (Rs.sat_bind.mp h)
      obtain ⟨p, ys, rfl, e2, e3⟩ := RepV.seq h1
      have := e3.ints e
      subst this
      exact ⟨p, ns, _, rfl, by rw [show y = _ from h2], SqL.of e2, kva h rfl⟩
theorem rs1 {Hs : Hp} {vs : List V} {d : D} (h : Reps G Hs vs [d]) : ∃ v, vs = [v] ∧ Rep G Hs v d := by
  obtain ⟨v, r, e, h1, h2⟩ := h
  rw [show r = [] from h2] at e
  exact ⟨v, e, h1⟩
theorem rs2 {Hs : Hp} {vs : List V} {d e : D} (h : Reps G Hs vs [d, e]) : ∃ v w, vs = [v, w] ∧ Rep G Hs v d ∧ Rep G Hs w e := by
  obtain ⟨v, r, e1, h1, h2⟩ := h
  obtain ⟨w, e2, h3⟩ := rs1 h2
  subst e2
  exact ⟨v, w, e1, h1, h3⟩
/-- what is wanted behind a step that changes the list of slot i -/
abbrev Kc (G : Gx) (Fo : Fx) (A : Nat → List Addr) (H : Hp) (σ : L2.St) (sl : Sls) (i : Nat) (b : Bool) (Q : VK) (d : D) (ys : List D) : Prop :=
  ∀ H' A' v, SR G Fo H' σ (sl.set i (.ow b (.lst ys))) A' → Same (vis H Fo A) (vis H' Fo A') → (∀ x, Fo x → H' x = H x) → Rep G (vis H' Fo A') v d → Q v H'
theorem chg (S : SR G Fo H σ sl A) {i : Nat} {b : Bool} {xs ys : List D} {a : Addr} {us ws : List V} (e : sl[i]? = some (Sl.ow b (.lst xs))) (ea : σ[i]? = some (some (.ref a))) (hA : A i = [a]) (r : Reps G (vis H Fo A) ws ys) :
    SR G Fo (upd H a (.lst ws)) σ (sl.set i (.ow b (.lst ys))) (putB A i [a]) ∧ Same (vis H Fo A) (vis (upd H a (.lst ws)) Fo (putB A i [a])) ∧ ∀ x, Fo x → upd H a (.lst ws) x = H x := by
  have k : ∀ x o, x ∉ A i → H x = some o → upd H a (.lst ws) x = some o := fun x o n q => by
    rw [upd_ne (fun z => n (by rw [hA, z]; exact List.mem_cons_self))]
    exact q
  have ev : Same (vis H Fo A) (vis (upd H a (.lst ws)) Fo (putB A i [a])) := hide_same fun x o n q => ⟨fun z => by
    rcases z with z | ⟨j, z⟩
    · exact n (.inl z)
    · rcases mem_putB z with ⟨_, z⟩ | ⟨_, z⟩
      · exact n (.inr ⟨i, by rw [hA]; exact z⟩)
      · exact n (.inr ⟨j, z⟩), k x o (fun z => n (.inr ⟨i, z⟩)) q⟩
  refine S.change e ea (by simp) (fun x hx => .inl (by rw [hA]; exact hx)) k ?_
  exact ⟨rfl, ws, upd_same, r.mono ev⟩
theorem bm_go (S : SR G Fo H σ sl A) {m : Bm} {i : Nat} {b : Bool} {xs ds : List D} {a : Addr} {vs : List V} (e : sl[i]? = some (Sl.ow b (.lst xs))) (ea : σ[i]? = some (some (.ref a))) (hv : Reps G (vis H Fo A) vs ds) {Q : VK}
    (h : (bmD m xs ds).sat fun r => Kc G Fo A H σ sl i b Q r.1 r.2) : rBm G.K m (.ref a) vs H Q := by
  obtain ⟨a', ea', hA, us, hH, rp⟩ := S.ow i b _ e
  rw [ea] at ea'
  obtain rfl : a = a' := by injection ea' with q; injection q with q; injection q
  have fin : ∀ {d : D} {ys : List D} {ws : List V} {v : V}, Kc G Fo A H σ sl i b Q d ys → Reps G (vis H Fo A) ws ys → Rep G (vis H Fo A) v d → Q v (upd H a (.lst ws)) := fun {d ys ws v} k r q => by
    obtain ⟨S', ev, fo⟩ := chg S (us := us) e ea hA r
    exact k _ _ _ S' ev fo (q.mono ev)
  cases m <;> first | exact (show False from h).elim | skip
  case append =>
    match ds, hv with
    | [], _ => exact (show False from h).elim
    | _ :: _ :: _, _ => exact (show False from h).elim
    | [d], hv =>
      obtain ⟨y, rfl, h2⟩ := rs1 hv
      obtain ⟨z, h⟩ := if_sat h
      exact ⟨a, us, y, rfl, rfl, hH, by rw [rp.len]; exact z, fin h (rp.app ⟨y, [], rfl, h2, rfl⟩) rfl⟩
  case extend =>
    match ds, hv with
    | [], _ => exact (show False from h).elim
    | d :: _ :: _, _ => cases d <;> exact (show False from h).elim
    | [d], hv =>
      obtain ⟨y, rfl, h2⟩ := rs1 hv
      cases d <;> first | exact (show False from h).elim | skip
      case lst ys =>
        obtain ⟨z, h⟩ := if_sat h
        obtain ⟨c, ws, rfl, q2, q3⟩ := h2
        exact .inl ⟨a, c, us, ws, rfl, rfl, hH, hide_sub _ _ q2, by rw [rp.len, q3.len]; exact z, fin h (rp.app q3) rfl⟩
      case tup ys =>
        obtain ⟨z, h⟩ := if_sat h
        obtain ⟨c, ws, rfl, q2, q3⟩ := h2
        exact .inr ⟨a, c, us, ws, rfl, rfl, hH, SqT.of (hide_sub _ _ q2), by rw [rp.len, q3.len]; exact z, fin h (rp.app q3) rfl⟩
  case insert =>
    match ds, hv with
    | [], _ => exact (show False from h).elim
    | [d], _ => cases d <;> exact (show False from h).elim
    | d :: _ :: _ :: _, _ => cases d <;> exact (show False from h).elim
    | [d, d2], hv =>
      obtain ⟨y, y2, rfl, h2, h3⟩ := rs2 hv
      cases d <;> first | exact (show False from h).elim | skip
      rename_i n
      obtain ⟨⟨hn, z⟩, h'⟩ := if_sat (show (if _ then _ else _ : Rs (D × List D)).sat _ from h)
      subst hn
      have q : y = .int 0 := h2
      subst q
      refine ⟨a, us, 0, y2, rfl, rfl, hH, by rw [rp.len]; exact z, by decide, by decide, ?_⟩
      exact fin h' (show Reps G (vis H Fo A) ([] ++ [y2] ++ us) (d2 :: xs) from ⟨y2, us, rfl, h3, rp⟩) rfl
  case pop1 =>
    match ds, hv with
    | [], _ => exact (show False from h).elim
    | d :: _ :: _, _ => cases d <;> exact (show False from h).elim
    | [d], hv =>
      obtain ⟨y, rfl, h2⟩ := rs1 hv
      cases d <;> first | exact (show False from h).elim | skip
      rename_i n
      obtain ⟨z, h⟩ := if_satR (show (if _ then _ else _ : Rs (D × List D)).sat _ from h)
      obtain ⟨d, q, h⟩ := Rs.of_sat (Rs.sat_bind.mp h)
      have hy : y = .int n := h2
      subst hy
      obtain ⟨w, w1, w2⟩ := rp.get q
      have hl := rp.len
      have hix : ixN us.length n = some n.toNat := by
        unfold ixN
        rw [if_pos z.1, if_pos (by rw [hl]; exact z.2.1)]
      exact ⟨a, us, n, n.toNat, w, rfl, rfl, hH, by omega, z.2.2, (ixN_seq hix).1, w1, fin h (rp.erase _) w2⟩
  case remove =>
    match ds, hv with
    | [], _ => exact (show False from h).elim
    | d :: _ :: _, _ => exact (show False from h).elim
    | [d], hv =>
      obtain ⟨y, rfl, h2⟩ := rs1 hv
      obtain ⟨z, h⟩ := if_satR (show (if _ then _ else _ : Rs (D × List D)).sat _ from h)
      obtain ⟨j, q, h⟩ := Rs.of_sat (Rs.sat_bind.mp h)
      exact ⟨a, us, y, _, _, j, rfl, rfl, hH, Reps.dp (rp.mono hide_sub) z.2.1, Rep.dp (h2.mono hide_sub) z.1, plains_of _ z.2.1, plain_of _ z.1, z.2.2, q, fin h (rp.erase _) rfl⟩
  case clear =>
    match ds, hv with
    | _ :: _, _ => exact (show False from h).elim
    | [], hv =>
      have q : vs = [] := hv
      subst q
      exact ⟨a, us, rfl, rfl, hH, fin h (show Reps G (vis H Fo A) [] [] from rfl) rfl⟩
end
end Pf

/-! Pf5: steps of a frame; lists of outcomes; calls -/
namespace Pf
open PySem L2
/-- from a state with open places B to one with B' -/
structure Step (G : Gx) (Fo : Fx) (B : List Addr) (A : Nat → List Addr) (H : Hp) (B' : List Addr) (A' : Nat → List Addr) (H' : Hp) (σ : L2.St) (sl : Sls) : Prop where
  st : SR G (U Fo B') H' σ sl A'
  nd : B'.Nodup
  out : ∀ x ∈ B', ¬ Fo x
  ext : Same (vis H (U Fo B) A) (vis H' (U Fo B') A')
  fo : ∀ x, Fo x → H' x = H x
def RvRs (G : Gx) (Hs H : Hp) (σ : L2.St) : List Addr → List V → List Rv → Prop
  | B, vs, [] => B = [] ∧ vs = []
  | B, vs, r :: rs => ∃ B1 B2 v ws, B = B1 ++ B2 ∧ vs = v :: ws ∧ RvR G Hs H σ B1 v r ∧ RvRs G Hs H σ B2 ws rs
section
variable {G : Gx} {Fo : Fx} {A A1 A2 A' : Nat → List Addr} {H H1 H2 H' Hs Hs' : Hp} {σ : L2.St} {sl sl1 sl2 sl' : Sls} {B B1 B2 B' : List Addr} {v : V} {r : Rv} {vs : List V} {rs : List Rv}
theorem U_comm (Fo : Fx) (B C : List Addr) : U Fo (B ++ C) = U Fo (C ++ B) := fx_eq (fun x => by simp [U, or_comm]) rfl
theorem Post.step (a : Post G Fo A H B A1 H1 σ sl1) (b : Step G Fo B A1 H1 B' A' H' σ sl') : Post G Fo A H B' A' H' σ sl' :=
  ⟨b.st, b.nd, b.out, a.ext.trans b.ext, fun x hx => (b.fo x hx).trans (a.fo x hx)⟩
theorem Post.as (a : Post G Fo A H B A1 H1 σ sl1) : Step G Fo [] A H B A1 H1 σ sl1 := ⟨a.st, a.nd, a.out, by rw [U_nil]; exact a.ext, a.fo⟩
/-- a step in which all that was open stays open -/
theorem Post.drop (b : Post G (U Fo B) A1 H1 B' A' H' σ sl') (out : ∀ x ∈ B, ¬ Fo x) : Step G Fo B A1 H1 B' A' H' σ sl' ∧ Same (vis H' (U (U Fo B) B') A') (vis H' (U Fo B') A') := by
  have e : U (U Fo B) B' = U (U Fo B') B := by rw [U_app, U_app, U_comm]
  have st := b.st
  rw [e] at st
  obtain ⟨S', ev, _⟩ := st.open' (B := B) (Fo := U Fo B') fun x hx z => by
    rcases z with z | z
    · exact out x hx z
    · exact b.out x z (.inr hx)
  rw [← e] at ev
  exact ⟨⟨S', b.nd, fun x hx z => b.out x hx (.inl z), b.ext.trans ev, fun x hx => b.fo x (.inl hx)⟩, ev⟩
theorem RvR.mono (e : Same Hs Hs') (k : ∀ b ∈ B, H' b = H b) (h : RvR G Hs H σ B v r) : RvR G Hs' H' σ B v r := by
  cases r with
  | va d => exact ⟨h.1, h.2.mono e⟩
  | fr p =>
    obtain ⟨a, e1, o⟩ := h
    exact ⟨a, e1, o.mono e k⟩
  | s i => exact h
  | pr d xs => exact PrR.mono e k h
theorem RvRs.mono (e : Same Hs Hs') : ∀ {rs : List Rv} {B : List Addr} {vs : List V}, (∀ b ∈ B, H' b = H b) → RvRs G Hs H σ B vs rs → RvRs G Hs' H' σ B vs rs
  | [], _, _, _, h => h
  | r :: rs, B, vs, k, h => by
    obtain ⟨B1, B2, v, ws, e1, e2, h1, h2⟩ := h
    subst e1
    exact ⟨B1, B2, v, ws, rfl, e2, h1.mono e fun b hb => k b (List.mem_append_left _ hb), RvRs.mono e (fun b hb => k b (List.mem_append_right _ hb)) h2⟩
theorem RvRs.views (S : SR G Fo H σ sl A) : ∀ {rs : List Rv} {B : List Addr} {vs : List V} {ds : List D}, RvRs G (vis H Fo A) H σ B vs rs → viewR sl rs = .ok ds → RepVs G (vis H Fo A) H vs ds
  | [], _, _, ds, h, e => by
    cases e
    exact h.2
  | r :: rs, B, vs, ds, h, e => by
    obtain ⟨B1, B2, v, ws, e1, e2, h1, h2⟩ := h
    subst e2
    unfold viewR at e
    cases q : view sl r with
    | none => rw [q] at e; cases e
    | some d =>
      rw [q] at e
      cases q2 : viewR sl rs with
      | stuck => rw [q2] at e; cases e
      | ok es =>
        rw [q2] at e
        cases e
        exact ⟨v, ws, rfl, h1.view S q, RvRs.views S h2 q2⟩
theorem settle_view {d : D} (e : settle sl r = some (d, sl')) : view sl r = some d ∧ ∀ r', view sl' r' = view sl r' := by
  cases r with
  | pr _ _ => cases e
  | va d' => cases e; exact ⟨rfl, fun _ => rfl⟩
  | fr p => cases e; exact ⟨rfl, fun _ => rfl⟩
  | s i =>
    simp only [settle] at e
    split at e
    · rename_i d' q
      cases e
      exact ⟨by simp only [view, q], fun _ => rfl⟩
    · rename_i p q
      cases e
      refine ⟨by simp only [view, q], fun r' => ?_⟩
      cases r' with
      | pr _ _ => rfl
      | va _ => rfl
      | fr _ => rfl
      | s j =>
        by_cases z : i = j
        · subst z
          simp only [view, List.getElem?_set_self (List.getElem?_eq_some_iff.mp q).1, q]
        · simp only [view, List.getElem?_set_ne z]
    · cases e
theorem settle_len {d : D} (e : settle sl r = some (d, sl')) : sl'.length = sl.length := by
  cases r with
  | pr _ _ => cases e
  | va d' => cases e; rfl
  | fr p => cases e; rfl
  | s i =>
    simp only [settle] at e
    split at e
    · cases e; rfl
    · cases e; exact List.length_set
    · cases e
theorem RvRs.settles : ∀ {rs : List Rv} {sl sl' : Sls} {A : Nat → List Addr} {B : List Addr} {vs : List V} {ds : List D}, SR G (U Fo B) H σ sl A → B.Nodup → (∀ x ∈ B, ¬ Fo x) → RvRs G (vis H (U Fo B) A) H σ B vs rs →
    settleR sl rs = .ok (ds, sl') → ∃ A', SR G Fo H σ sl' A' ∧ Same (vis H (U Fo B) A) (vis H Fo A') ∧ Reps G (vis H Fo A') vs ds ∧ viewR sl rs = .ok ds ∧ (∀ r', view sl' r' = view sl r')
  | [], sl, sl', A, B, vs, ds, S, nd, out, h, e => by
    cases e
    obtain ⟨e1, e2⟩ := h
    subst e1
    rw [U_nil] at S
    exact ⟨A, S, by rw [U_nil]; exact Same.refl _, e2, rfl, fun _ => rfl⟩
  | r :: rs, sl, sl', A, B, vs, ds, S, nd, out, h, e => by
    obtain ⟨B1, B2, v, ws, e1, e2, h1, h2⟩ := h
    subst e1 e2
    unfold settleR at e
    cases q : settle sl r with
    | none => rw [q] at e; cases e
    | some p =>
      obtain ⟨d, sl1⟩ := p
      rw [q] at e
      cases q2 : settleR sl1 rs with
      | stuck => simp only [Rs.of_some, Rs.bind_ok, q2] at e; cases e
      | ok p2 =>
        obtain ⟨es, sl2⟩ := p2
        simp only [Rs.of_some, Rs.bind_ok, q2] at e
        cases e
        have eU : U Fo (B1 ++ B2) = U (U Fo B2) B1 := by rw [U_app, U_comm]
        rw [eU] at S h1 h2 ⊢
        obtain ⟨nd1, nd2, dj⟩ := List.nodup_append.mp nd
        obtain ⟨A1, S1, ev1, rp1⟩ := RvR.settle S (fun x hx z => by
          rcases z with z | z
          · exact out x (List.mem_append_left _ hx) z
          · exact dj x hx x z rfl) h1 q
        obtain ⟨A2, S2, ev2, rp2, vw2, vs2⟩ := RvRs.settles S1 nd2 (fun x hx => out x (List.mem_append_right _ hx)) (h2.mono ev1 fun _ _ => rfl) q2
        obtain ⟨w1, w2⟩ := settle_view q
        have vwe : viewR sl rs = viewR sl1 rs := by
          have : ∀ l : List Rv, viewR sl1 l = viewR sl l := by
            intro l
            induction l with
            | nil => rfl
            | cons x l ih => unfold viewR; rw [w2 x, ih]
          exact (this rs).symm
        refine ⟨A2, S2, ev1.trans ev2, ⟨v, ws, rfl, rp1.mono ev2, rp2⟩, ?_, fun r' => (vs2 r').trans (w2 r')⟩
        unfold viewR
        rw [w1, vwe, vw2]
        rfl
/-- a def's outcome -/
def ResV (G : Gx) (Hs H : Hp) (B : List Addr) (v : V) : Rv → Prop
  | .pr d xs => PrR G Hs H B v d xs
  | .va d => B = [] ∧ Rep G Hs v d
  | .fr p => ∃ a, v = .ref a ∧ Own G Hs H p a B
  | .s _ => False
/-- behind a call: r, what it told; v its value; B its new places; C the places of what was handed in to be changed -/
structure PostC (G : Gx) (Fo : Fx) (H : Hp) (vs : List V) (A : Nat → List Addr) (io : Option Nat) (q : Rv × Option OP) (H' : Hp) (B C : List Addr) (v : V) : Prop where
  nd : (B ++ C).Nodup
  out : ∀ x ∈ B ++ C, ¬ Fo x
  ext : Same (hide H (Hd Fo A)) (hide H' (U Fo (B ++ C)).fo)
  fo : ∀ x, Fo x → H' x = H x
  res : ResV G (hide H' (U Fo (B ++ C)).fo) H' B v q.1
  ioR : match io, q.2 with
    | none, none => C = []
    | some k, some p => ∃ a, vs[k]? = some (.ref a) ∧ Own G (hide H' (U Fo (B ++ C)).fo) H' p a C
    | _, _ => False
theorem RvRs.at : ∀ {rs : List Rv} {B : List Addr} {vs : List V} {m : Nat} {r : Rv}, RvRs G Hs H σ B vs rs → rs[m]? = some r → ∃ v B1, vs[m]? = some v ∧ (∀ x ∈ B1, x ∈ B) ∧ RvR G Hs H σ B1 v r
  | [], _, _, _, _, _, e => by simp at e
  | r0 :: rs, B, vs, 0, r, h, e => by
    obtain ⟨B1, B2, v, ws, e1, e2, h1, h2⟩ := h
    subst e1 e2
    simp at e
    subst e
    exact ⟨v, B1, rfl, fun x hx => List.mem_append_left _ hx, h1⟩
  | r0 :: rs, B, vs, m + 1, r, h, e => by
    obtain ⟨B1, B2, v, ws, e1, e2, h1, h2⟩ := h
    subst e1 e2
    obtain ⟨u, B3, q1, q2, q3⟩ := RvRs.at (m := m) h2 (by simpa using e)
    exact ⟨u, B3, by simpa using q1, fun x hx => List.mem_append_right _ (q2 x hx), q3⟩
theorem RvRs.len : ∀ {rs : List Rv} {B : List Addr} {vs : List V}, RvRs G Hs H σ B vs rs → vs.length = rs.length
  | [], _, _, h => by rw [h.2]; rfl
  | r0 :: rs, B, vs, h => by
    obtain ⟨B1, B2, v, ws, e1, e2, h1, h2⟩ := h
    subst e2
    simp [RvRs.len h2]
theorem viewR_at : ∀ {rs : List Rv} {ds : List D} {m : Nat} {d : D}, viewR sl rs = .ok ds → ds[m]? = some d → ∃ r, rs[m]? = some r ∧ view sl r = some d
  | [], ds, m, d, e, h => by cases e; simp at h
  | r :: rs, ds, m, d, e, h => by
    unfold viewR at e
    cases q : view sl r with
    | none => rw [q] at e; cases e
    | some d0 =>
      rw [q] at e
      cases q2 : viewR sl rs with
      | stuck => rw [q2] at e; cases e
      | ok es =>
        rw [q2] at e
        cases e
        cases m with
        | zero =>
          simp at h
          subst h
          exact ⟨r, rfl, q⟩
        | succ m =>
          obtain ⟨r', z1, z2⟩ := viewR_at (m := m) q2 (by simpa using h)
          exact ⟨r', by simpa using z1, z2⟩
theorem viewR_len : ∀ {rs : List Rv} {ds : List D}, viewR sl rs = .ok ds → ds.length = rs.length
  | [], ds, e => by cases e; rfl
  | r :: rs, ds, e => by
    unfold viewR at e
    cases q : view sl r with
    | none => rw [q] at e; cases e
    | some d0 =>
      rw [q] at e
      cases q2 : viewR sl rs with
      | stuck => rw [q2] at e; cases e
      | ok es =>
        rw [q2] at e
        cases e
        simp [viewR_len q2]

theorem own_flat {p : OP} {a : Addr} (f : p.flat = true) (h : Own G Hs H p a B) : Own G Hs' H p a B := by
  cases p with
  | obj c fs => cases f
  | dct kvs => cases f
  | dcn kvs => cases f
  | lst ds =>
    obtain ⟨e1, vs, e2, e3⟩ := h
    cases q : scs ds with
    | none => simp [OP.flat, q] at f
    | some xs =>
      have := e3.scs q
      subst this
      exact ⟨e1, vs, e2, reps_scs q⟩
theorem rv_flat {q : Rv} (f : q.flat = true) (h : ResV G Hs H B v q) : RvR G Hs' H σ B v q := by
  cases q with
  | pr _ _ => cases f
  | va d =>
    obtain ⟨e, r⟩ := h
    have f : d.sc.isSome = true := f
    cases z : d.sc with
    | none => rw [z] at f; cases f
    | some x =>
      have := r.sc z
      subst this
      exact ⟨e, rep_sc z⟩
  | fr p =>
    obtain ⟨a, e, o⟩ := h
    have f : p.flat = true := by
      cases p with
      | obj c fs => cases f
      | dct kvs => cases f
      | dcn kvs => cases f
      | lst ds => exact f
    exact ⟨a, e, own_flat f o⟩
  | s i => exact h.elim
theorem rv_mono {q : Rv} (e : Same Hs Hs') (h : ResV G Hs H B v q) : RvR G Hs' H σ B v q := by
  cases q with
  | pr d xs => exact PrR.mono e (fun _ _ => rfl) h
  | va d => exact ⟨h.1, h.2.mono e⟩
  | fr p =>
    obtain ⟨a, e1, o⟩ := h
    exact ⟨a, e1, o.mono e fun _ _ => rfl⟩
  | s i => exact h.elim
theorem rv_there {q : Rv} (h : ResV G Hs H B v q) : ∀ x ∈ B, H x ≠ none := fun x hx => by
  cases q with
  | pr d xs =>
    obtain ⟨a, b, v1, vs, e1, e2, e3, e4, e5, e6⟩ := h
    subst e2
    rcases List.mem_cons.mp hx with z | z
    · rw [z, e5]; simp
    · rw [List.mem_singleton.mp z, e3]; simp
  | va d => rw [h.1] at hx; cases hx
  | fr p =>
    obtain ⟨a, e, o⟩ := h
    obtain ⟨u, z⟩ := o.there x hx
    rw [z]; simp
  | s i => exact h.elim
/-- what the callee may not see: what callers hide; where its outcome may hold what it was handed (flat = false): all that we own -/
def Fc (Fo : Fx) (A : Nat → List Addr) (flat : Bool) (i : Option Nat) (ro : Nat → Addr) : Fx := ⟨fun x => Fo x ∨ (flat = false ∧ ∃ j, i ≠ some j ∧ x ∈ A j), ro⟩
/-- behind a call that changes nothing of ours -/
theorem call_none (S : SR G Fo H σ sl A) {flat : Bool} {ro : Nat → Addr} {C : List Addr} {q : Rv × Option OP} (P : PostC G (Fc Fo A flat none ro) H vs (fun _ => []) none q H' B C v) (hf : flat = true → q.1.flat = true) :
    q.2 = none ∧ Step G Fo [] A H B A H' σ sl ∧ RvR G (vis H' (U Fo B) A) H' σ B v q.1 := by
  have hq : q.2 = none := by
    have := P.ioR
    cases z : q.2 with
    | none => rfl
    | some p => rw [z] at this; exact this.elim
  have hC : C = [] := by
    have := P.ioR
    rw [hq] at this
    exact this
  subst hC
  have F1 : ∀ x o, ¬ (Fc Fo A flat none ro) x → H x = some o → H' x = some o ∧ x ∉ B := fun x o n e => by
    have h1 : hide H (Hd (Fc Fo A flat none ro) fun _ => []) x = some o := by
      rw [hide_no fun z => ?_]
      · exact e
      · rcases z with z | ⟨j, z⟩
        · exact n z
        · cases z
    obtain ⟨h2, h3⟩ := hide_some (P.ext x o h1)
    exact ⟨h3, fun z => h2 (.inr (List.mem_append_left _ z))⟩
  have notFo : ∀ j x, x ∈ A j → flat = true → ¬ (Fc Fo A flat none ro) x := fun j x hx f z => by
    rcases z with z | ⟨z, _⟩
    · exact S.fd j x hx z
    · rw [f] at z; cases z
  have keepA : ∀ j x, x ∈ A j → H' x = H x ∧ x ∉ B := fun j x hx => by
    obtain ⟨o, e⟩ := S.there hx
    cases flat with
    | true =>
      obtain ⟨h1, h2⟩ := F1 x o (notFo j x hx rfl) e
      exact ⟨h1.trans e.symm, h2⟩
    | false =>
      have z : (Fc Fo A false none ro) x := .inr ⟨rfl, j, by simp, hx⟩
      exact ⟨P.fo x z, fun y => P.out x (List.mem_append_left _ y) z⟩
  have ev : Same (vis H Fo A) (vis H' (U Fo B) A) := hide_same fun x o n e => by
    have n' : ¬ (Fc Fo A flat none ro) x := fun z => by
      rcases z with z | ⟨_, j, _, z⟩
      · exact n (.inl z)
      · exact n (.inr ⟨j, z⟩)
    obtain ⟨h1, h2⟩ := F1 x o n' e
    refine ⟨fun z => ?_, h1⟩
    rcases z with (z | z) | z
    · exact n (.inl z)
    · exact h2 z
    · exact n (.inr z)
  have ndB : B.Nodup := by have := P.nd; rw [List.append_nil] at this; exact this
  have outB : ∀ x ∈ B, ¬ Fo x := fun x hx z => P.out x (List.mem_append_left _ hx) (.inl z)
  have fo : ∀ x, Fo x → H' x = H x := fun x z => P.fo x (.inl z)
  refine ⟨hq, ⟨⟨S.len, fun j d e => ?_, fun j b p e => ?_, S.no, S.nd, S.dj, fun j x hx z => ?_, fun x z => ?_, S.ro⟩, ndB, outB, by rw [U_nil]; exact ev, fo⟩, ?_⟩
  · obtain ⟨w, w1, w2⟩ := S.va j d e
    exact ⟨w, w1, w2.mono ev⟩
  · obtain ⟨a, w1, w2⟩ := S.ow j b p e
    exact ⟨a, w1, w2.mono ev fun x hx => (keepA j x hx).1⟩
  · rcases z with z | z
    · exact S.fd j x hx z
    · exact (keepA j x hx).2 z
  · rcases z with z | z
    · rw [fo x z]; exact S.fa x z
    · exact rv_there P.res x z
  · cases flat with
    | true => exact rv_flat (hf rfl) P.res
    | false =>
      refine rv_mono (hide_mono fun y z => ?_) P.res
      rcases z with (z | z) | ⟨j, z⟩
      · exact .inl (.inl z)
      · exact .inr (List.mem_append_left _ z)
      · exact .inl (.inr ⟨rfl, j, by simp, z⟩)
/-- behind a call that changes slot i's own thing -/
theorem call_some (S : SR G Fo H σ sl A) {flat : Bool} {ro : Nat → Addr} {C : List Addr} {i k : Nat} {b : Bool} {p : OP} {a : Addr} (e : sl[i]? = some (Sl.ow b p)) (ea : σ[i]? = some (some (.ref a))) (ek : vs[k]? = some (.ref a)) {q : Rv × Option OP}
    (P : PostC G (Fc Fo A flat (some i) ro) H vs (fun m => if m = k then A i else []) (some k) q H' B C v) {p' : OP} (hp : q.2 = some p') (hf : flat = true → q.1.flat = true ∧ p'.flat = true) :
    Step G Fo [] A H B (putB A i C) H' σ (sl.set i (.ow b p')) ∧ RvR G (vis H' (U Fo B) (putB A i C)) H' σ B v q.1 := by
  obtain ⟨a', ea', oC⟩ : ∃ a, vs[k]? = some (.ref a) ∧ Own G (hide H' (U (Fc Fo A flat (some i) ro) (B ++ C)).fo) H' p' a C := by
    have := P.ioR
    rw [hp] at this
    exact this
  have : a' = a := by rw [ek] at ea'; injection ea' with z; injection z with z; exact z.symm
  subst this
  obtain ⟨ndB, ndC, djBC⟩ := List.nodup_append.mp P.nd
  have F1 : ∀ x o, ¬ (Fc Fo A flat (some i) ro) x → x ∉ A i → H x = some o → H' x = some o ∧ x ∉ B ∧ x ∉ C := fun x o n ni e => by
    have h1 : hide H (Hd (Fc Fo A flat (some i) ro) fun m => if m = k then A i else []) x = some o := by
      rw [hide_no fun z => ?_]
      · exact e
      · rcases z with z | ⟨j, z⟩
        · exact n z
        · have z : x ∈ (if j = k then A i else []) := z
          by_cases q : j = k
          · rw [if_pos q] at z; exact ni z
          · rw [if_neg q] at z; cases z
    obtain ⟨h2, h3⟩ := hide_some (P.ext x o h1)
    exact ⟨h3, fun z => h2 (.inr (List.mem_append_left _ z)), fun z => h2 (.inr (List.mem_append_right _ z))⟩
  have keepA : ∀ j, j ≠ i → ∀ x, x ∈ A j → H' x = H x ∧ x ∉ B ∧ x ∉ C := fun j hj x hx => by
    obtain ⟨o, q⟩ := S.there hx
    cases flat with
    | true =>
      obtain ⟨h1, h2, h3⟩ := F1 x o (fun z => by
        rcases z with z | ⟨z, _⟩
        · exact S.fd j x hx z
        · cases z) (S.dj j i x hj hx) q
      exact ⟨h1.trans q.symm, h2, h3⟩
    | false =>
      have z : (Fc Fo A false (some i) ro) x := .inr ⟨rfl, j, by simpa using fun w => hj w.symm, hx⟩
      exact ⟨P.fo x z, fun y => P.out x (List.mem_append_left _ y) z, fun y => P.out x (List.mem_append_right _ y) z⟩
  have outB : ∀ x ∈ B, ¬ Fo x := fun x hx z => P.out x (List.mem_append_left _ hx) (.inl z)
  have outC : ∀ x ∈ C, ¬ Fo x := fun x hx z => P.out x (List.mem_append_right _ hx) (.inl z)
  have fo : ∀ x, Fo x → H' x = H x := fun x z => P.fo x (.inl z)
  have hi : i < sl.length := (List.getElem?_eq_some_iff.mp e).1
  have ev : Same (vis H Fo A) (vis H' (U Fo B) (putB A i C)) := hide_same fun x o n q => by
    have n' : ¬ (Fc Fo A flat (some i) ro) x := fun z => by
      rcases z with z | ⟨_, j, _, z⟩
      · exact n (.inl z)
      · exact n (.inr ⟨j, z⟩)
    obtain ⟨h1, h2, h3⟩ := F1 x o n' (fun z => n (.inr ⟨i, z⟩)) q
    refine ⟨fun z => ?_, h1⟩
    rcases z with (z | z) | ⟨j, z⟩
    · exact n (.inl z)
    · exact h2 z
    · rcases mem_putB z with ⟨_, z⟩ | ⟨_, z⟩
      · exact h3 z
      · exact n (.inr ⟨j, z⟩)
  have evC : flat = false → Same (hide H' (U (Fc Fo A flat (some i) ro) (B ++ C)).fo) (vis H' (U Fo B) (putB A i C)) := fun f => hide_mono fun y z => by
    rcases z with (z | z) | ⟨j, z⟩
    · exact .inl (.inl z)
    · exact .inr (List.mem_append_left _ z)
    · rcases mem_putB z with ⟨_, z⟩ | ⟨z1, z⟩
      · exact .inr (List.mem_append_right _ z)
      · exact .inl (.inr ⟨f, j, by simpa using fun w => z1 w.symm, z⟩)
  have oC' : Own G (vis H' (U Fo B) (putB A i C)) H' p' a' C := by
    cases flat with
    | true => exact own_flat (hf rfl).2 oC
    | false => exact oC.mono (evC rfl) fun _ _ => rfl
  refine ⟨⟨⟨by rw [List.length_set]; exact S.len, fun j d e' => ?_, fun j b' p'' e' => ?_, fun j hh => ?_, fun j => ?_, fun j l x n hx hy => ?_, fun j x hx z => ?_, fun x z => ?_, fun j p'' e' => ?_⟩, ndB, outB, by rw [U_nil]; exact ev, fo⟩, ?_⟩
  · rcases get_set e' with ⟨z, z'⟩ | ⟨z, z'⟩
    · cases z'
    · obtain ⟨w, w1, w2⟩ := S.va j d z'
      exact ⟨w, w1, w2.mono ev⟩
  · rcases get_set e' with ⟨z, z'⟩ | ⟨z, z'⟩
    · subst z; cases z'
      rw [putB_eq]
      exact ⟨a', ea, oC'⟩
    · obtain ⟨w, w1, w2⟩ := S.ow j b' p'' z'
      rw [putB_ne z]
      exact ⟨w, w1, w2.mono ev fun x hx => (keepA j z x hx).1⟩
  · by_cases q : j = i
    · subst q
      exact absurd (List.getElem?_set_self hi) (hh _ _)
    · rw [putB_ne q]
      refine S.no j fun b' p' z => hh b' p' ?_
      rw [List.getElem?_set_ne (Ne.symm q)]; exact z
  · by_cases q : j = i
    · subst q; rw [putB_eq]; exact ndC
    · rw [putB_ne q]; exact S.nd j
  · rcases mem_putB hx with ⟨z1, z2⟩ | ⟨z1, z2⟩
    · rcases mem_putB hy with ⟨y1, y2⟩ | ⟨y1, y2⟩
      · exact n (z1.trans y1.symm)
      · exact (keepA l y1 x y2).2.2 z2
    · rcases mem_putB hy with ⟨y1, y2⟩ | ⟨y1, y2⟩
      · exact (keepA j z1 x z2).2.2 y2
      · exact S.dj j l x n z2 y2
  · rcases mem_putB hx with ⟨z1, z2⟩ | ⟨z1, z2⟩
    · rcases z with z | z
      · exact outC x z2 z
      · exact djBC x z x z2 rfl
    · rcases z with z | z
      · exact S.fd j x z2 z
      · exact (keepA j z1 x z2).2.1 z
  · rcases z with z | z
    · rw [fo x z]; exact S.fa x z
    · exact rv_there P.res x z
  · rcases get_set e' with ⟨z, z'⟩ | ⟨z, z'⟩
    · subst z; cases z'
      exact S.ro j p e
    · exact S.ro j p'' z'
  · cases flat with
    | true => exact rv_flat (hf rfl).1 P.res
    | false => exact rv_mono (evC rfl) P.res
end
end Pf

/-! Pf6: a call's promise; calls and makings joined -/
namespace Pf
open PySem L2
/-- what a def promises: its value, by the evaluator -/
def spI (G : Gx) (cf : CF) (io : Option Nat) (f : Nat) : Sp := fun vs H Q _ => ∃ Fo as A, SR G Fo H (vs.map some) as A ∧ (cf f as).sat fun q => ∀ H' B C v, PostC G Fo H vs A io q H' B C v → Q v H'
section
variable {G : Gx} {Fo : Fx} {A A1 A2 A' : Nat → List Addr} {H H1 H2 H' Hs Hs' : Hp} {σ : L2.St} {sl sl1 sl2 sl' : Sls} {B B1 B2 B' : List Addr} {v : V} {r : Rv} {vs : List V} {rs : List Rv}
theorem RvR.viewP (S : SR G Fo H σ sl A) (h : RvR G (vis H Fo A) H σ B v r) {d : D} (e : Pf.view sl r = some d) {P : AS} (hP : ∀ x, P x → Hd Fo A x) (hB : ∀ x ∈ B, ¬ P x) (hA : ∀ i, r = .s i → ∀ x ∈ A i, ¬ P x) : Rep G (hide H P) v d := by
  have ev : Same (vis H Fo A) (hide H P) := hide_mono hP
  cases r with
  | pr _ _ => cases e
  | va d' =>
    have e' : d' = d := Option.some.inj e
    subst e'
    exact h.2.mono ev
  | fr p =>
    have e' : p.d = d := Option.some.inj e
    subst e'
    obtain ⟨a, e1, o⟩ := h
    subst e1
    exact o.rep ev fun x hx o ho => by rw [hide_no (hB x hx)]; exact ho
  | s i =>
    simp only [Pf.view] at e
    split at e
    · rename_i d' q
      cases e
      obtain ⟨w, w1, w2⟩ := S.va i _ q
      rw [h.2] at w1
      cases w1
      exact w2.mono ev
    · rename_i b p q
      cases e
      obtain ⟨w, w1, w2⟩ := S.ow i _ _ q
      rw [h.2] at w1
      cases w1
      exact w2.rep ev fun x hx o ho => by rw [hide_no (hA i rfl x hx)]; exact ho
    · cases e
theorem settle_keep {i : Nat} {d : D} (n : r.root ≠ some i) (e : settle sl r = some (d, sl')) : sl'[i]? = sl[i]? := by
  cases r with
  | pr _ _ => cases e
  | va d' => cases e; rfl
  | fr p => cases e; rfl
  | s j =>
    have hj : j ≠ i := fun z => n (congrArg some z)
    simp only [settle] at e
    split at e
    · cases e; rfl
    · cases e
      exact List.getElem?_set_ne hj
    · cases e
theorem settleR_keep {i : Nat} : ∀ {rs : List Rv} {sl sl' : Sls} {ds : List D}, (∀ r ∈ rs, r.root ≠ some i) → settleR sl rs = .ok (ds, sl') → sl'[i]? = sl[i]?
  | [], sl, sl', ds, _, e => by cases e; rfl
  | r :: rs, sl, sl', ds, n, e => by
    unfold settleR at e
    cases q : settle sl r with
    | none => rw [q] at e; cases e
    | some p =>
      obtain ⟨d, sl1⟩ := p
      rw [q] at e
      cases q2 : settleR sl1 rs with
      | stuck => simp only [Rs.of_some, Rs.bind_ok, q2] at e; cases e
      | ok p2 =>
        obtain ⟨es, sl2⟩ := p2
        simp only [Rs.of_some, Rs.bind_ok, q2] at e
        cases e
        exact (settleR_keep (fun r' hr => n r' (List.mem_cons_of_mem _ hr)) q2).trans (settle_keep (n r List.mem_cons_self) q)
/-- one outcome is left out -/
theorem RvRs.omit : ∀ {rs : List Rv} {B : List Addr} {vs : List V} {k i : Nat}, RvRs G Hs H σ B vs rs → rs[k]? = some (.s i) → RvRs G Hs H σ B (vs.set k .non) (rs.set k (.va .non)) ∧ ∃ v, vs[k]? = some v ∧ σ[i]? = some (some v)
  | [], _, _, _, _, _, e => by simp at e
  | r0 :: rs, B, vs, 0, i, h, e => by
    obtain ⟨B1, B2, v, ws, e1, e2, h1, h2⟩ := h
    subst e1 e2
    simp at e
    subst e
    obtain ⟨z1, z2⟩ := h1
    exact ⟨⟨B1, B2, .non, ws, rfl, rfl, ⟨z1, rfl⟩, h2⟩, v, rfl, z2⟩
  | r0 :: rs, B, vs, k + 1, i, h, e => by
    obtain ⟨B1, B2, v, ws, e1, e2, h1, h2⟩ := h
    subst e1 e2
    obtain ⟨h3, u, q1, q2⟩ := RvRs.omit (k := k) h2 (by simpa using e)
    exact ⟨⟨B1, B2, v, _, rfl, rfl, h1, h3⟩, u, by simpa using q1, q2⟩
theorem viewR_set : ∀ {rs : List Rv} {ds : List D} {k : Nat}, viewR sl rs = .ok ds → viewR sl (rs.set k (.va .non)) = .ok (ds.set k .non)
  | [], ds, k, e => by cases e; rfl
  | r :: rs, ds, k, e => by
    unfold viewR at e
    cases q : view sl r with
    | none => rw [q] at e; cases e
    | some d0 =>
      rw [q] at e
      cases q2 : viewR sl rs with
      | stuck => rw [q2] at e; cases e
      | ok es =>
        rw [q2] at e
        cases e
        cases k with
        | zero =>
          show (Rs.of (view sl (.va .non))).bind _ = _
          simp only [view, Rs.of_some, Rs.bind_ok, q2]
          rfl
        | succ k =>
          show (Rs.of (view sl r)).bind _ = _
          simp only [q, Rs.of_some, Rs.bind_ok, viewR_set q2]
          rfl
/-- the state that a callee starts from: nothing of it may be changed -/
theorem sr_none {P : Fx} (fa : ∀ x, P x → H x ≠ none) {ds : List D} (len : vs.length = ds.length) (h : ∀ (j : Nat) d, ds[j]? = some d → ∃ v, vs[j]? = some v ∧ Rep G (hide H P.fo) v d) : SR G P H (vs.map some) (ds.map Sl.va) (fun _ => []) := by
  have e : Hd P (fun _ => []) = P.fo := funext fun x => propext ⟨(fun z => by
    rcases z with z | ⟨j, z⟩
    · exact z
    · cases z), fun z => .inl z⟩
  have hv : ∀ (i : Nat) (x : Sl), (ds.map Sl.va)[i]? = some x → ∃ d, ds[i]? = some d ∧ x = .va d := fun i x q => by
    rw [List.getElem?_map] at q
    cases z : ds[i]? with
    | none => rw [z] at q; cases q
    | some d => rw [z] at q; exact ⟨d, rfl, (Option.some.inj q).symm⟩
  refine ⟨by simp [len], fun i d q => ?_, fun i b p q => ?_, fun _ _ => rfl, fun _ => List.nodup_nil, (fun _ _ _ _ h => absurd h List.not_mem_nil), (fun _ _ h => absurd h List.not_mem_nil), fa, fun i p q => ?_⟩
  · obtain ⟨d', z1, z2⟩ := hv i _ q
    cases z2
    obtain ⟨v, w1, w2⟩ := h i d z1
    refine ⟨v, by rw [List.getElem?_map, w1]; rfl, ?_⟩
    rw [e]; exact w2
  · obtain ⟨d', z1, z2⟩ := hv i _ q
    cases z2
  · obtain ⟨d', z1, z2⟩ := hv i _ q
    cases z2
/-- .. the k-th may be changed: p at a, its places C -/
theorem sr_some {P : Fx} {k : Nat} {a : Addr} {p : OP} {C : List Addr} (fa : ∀ x, P x → H x ≠ none) {ds : List D} (len : vs.length = ds.length) (hk : vs[k]? = some (.ref a)) (hr : P.ro k = a) (nd : C.Nodup) (out : ∀ x ∈ C, ¬ P x)
    (h : ∀ (j : Nat) d, j ≠ k → ds[j]? = some d → ∃ v, vs[j]? = some v ∧ Rep G (hide H fun x => P x ∨ x ∈ C) v d) (ho : Own G (hide H fun x => P x ∨ x ∈ C) H p a C) : SR G P H (vs.map some) ((ds.map Sl.va).set k (.ow false p)) (fun m => if m = k then C else []) := by
  have hkl : k < ds.length := by rw [← len]; exact (List.getElem?_eq_some_iff.mp hk).1
  have e : Hd P (fun m => if m = k then C else []) = fun x => P x ∨ x ∈ C := funext fun x => propext ⟨(fun z => by
    rcases z with z | ⟨j, z⟩
    · exact .inl z
    · have z : x ∈ (if j = k then C else []) := z
      by_cases q : j = k
      · rw [if_pos q] at z; exact .inr z
      · rw [if_neg q] at z; cases z), (fun z => by
    rcases z with z | z
    · exact .inl z
    · exact .inr ⟨k, by show x ∈ (if k = k then C else []); rw [if_pos rfl]; exact z⟩)⟩
  have hv : ∀ (i : Nat) (x : Sl), ((ds.map Sl.va).set k (.ow false p))[i]? = some x → (i = k ∧ x = .ow false p) ∨ (i ≠ k ∧ ∃ d, ds[i]? = some d ∧ x = .va d) := fun i x q => by
    rcases get_set q with ⟨z1, z2⟩ | ⟨z1, z2⟩
    · exact .inl ⟨z1, z2.symm⟩
    · refine .inr ⟨z1, ?_⟩
      rw [List.getElem?_map] at z2
      cases z : ds[i]? with
      | none => rw [z] at z2; cases z2
      | some d => rw [z] at z2; exact ⟨d, rfl, (Option.some.inj z2).symm⟩
  refine ⟨by simp [len], fun i d q => ?_, fun i b p' q => ?_, fun i hh => ?_, fun i => ?_, fun i j x n hx hy => ?_, fun i x hx => ?_, fa, fun i p' q => ?_⟩
  · rcases hv i _ q with ⟨z1, z2⟩ | ⟨z1, d', z2, z3⟩
    · cases z2
    · cases z3
      obtain ⟨v, w1, w2⟩ := h i d z1 z2
      refine ⟨v, by rw [List.getElem?_map, w1]; rfl, ?_⟩
      rw [e]; exact w2
  · rcases hv i _ q with ⟨z1, z2⟩ | ⟨z1, d', z2, z3⟩
    · cases z2
      subst z1
      refine ⟨a, by rw [List.getElem?_map, hk]; rfl, ?_⟩
      rw [e, if_pos rfl]; exact ho
    · cases z3
  · by_cases q : i = k
    · subst q
      exact absurd (List.getElem?_set_self (by simpa using hkl)) (hh _ _)
    · exact if_neg q
  · show (if i = k then C else []).Nodup
    by_cases q : i = k
    · rw [if_pos q]; exact nd
    · rw [if_neg q]; exact List.nodup_nil
  · have hx : x ∈ (if i = k then C else []) := hx
    have hy : x ∈ (if j = k then C else []) := hy
    by_cases q : i = k
    · rw [if_neg fun z => n (q.trans z.symm)] at hy; cases hy
    · rw [if_neg q] at hx; cases hx
  · have hx : x ∈ (if i = k then C else []) := hx
    by_cases q : i = k
    · rw [if_pos q] at hx; exact out x hx
    · rw [if_neg q] at hx; cases hx
  · rcases hv i _ q with ⟨z1, z2⟩ | ⟨z1, d', z2, z3⟩
    · subst z1
      rw [List.getElem?_map, hk, hr]; rfl
    · cases z3
theorem Step.opened (S : SR G (U Fo B) H σ sl A) (hB : ∀ x ∈ B, ¬ Fo x) (st : Step G Fo [] A H B' A' H' σ sl') : Step G Fo B A H B' A' H' σ sl' := by
  obtain ⟨_, ev, _⟩ := S.open' hB
  have := st.ext
  rw [U_nil] at this
  exact ⟨st.st, st.nd, st.out, ev.trans this, st.fo⟩
theorem Step.later (ev : Same (vis H (U Fo B) A) (vis H Fo A1)) (st : Step G Fo [] A1 H B' A' H' σ sl') : Step G Fo B A H B' A' H' σ sl' := by
  have := st.ext
  rw [U_nil] at this
  exact ⟨st.st, st.nd, st.out, ev.trans this, st.fo⟩
/-- what may follow -/
abbrev Kn (G : Gx) (Fo : Fx) (B : List Addr) (A : Nat → List Addr) (H : Hp) (σ : L2.St) (Q : VK) (q : Rv × Sls) : Prop := ∀ H' A' B' v, Step G Fo B A H B' A' H' σ q.2 → RvR G (vis H' (U Fo B') A') H' σ B' v q.1 → Q v H'
theorem call_go {cf : CF} {io : Option Nat} {f : Nat} (S : SR G (U Fo B) H σ sl A) (nd : B.Nodup) (out : ∀ x ∈ B, ¬ Fo x) (R : RvRs G (vis H (U Fo B) A) H σ B vs rs) {Q : VK} {E : XK}
    (h0 : (doCall cf io f rs sl).sat (Kn G Fo B A H σ Q)) : spI G cf io f vs H Q E := by
  have h0 := Rs.sat_bind.mp h0
  cases ea : argS sl io rs with
  | stuck => rw [ea] at h0; exact h0.elim
  | ok as =>
    rw [ea] at h0
    replace h0 := Rs.sat_bind.mp (show Rs.sat (Rs.bind (cf f as) _) _ from h0)
    cases eq : cf f as with
    | stuck => rw [eq] at h0; exact h0.elim
    | ok q =>
      rw [eq] at h0
      have h := Rs.sat_ok.mp h0
      clear h0
      obtain ⟨ds, ev⟩ : ∃ ds, viewR sl rs = .ok ds := by
        unfold argS at ea
        cases z : viewR sl rs with
        | stuck => rw [z] at ea; cases ea
        | ok ds => exact ⟨ds, rfl⟩
      have ea2 := ea
      unfold argS at ea2
      rw [ev, Rs.bind_ok] at ea2
      have lds := viewR_len ev
      have lvs := R.len
      cases io with
      | none =>
        cases ea2
        have h : Rs.sat (match q.2 with
          | none => if q.1.flat = true then Rs.ok (q.1, sl) else (settleR sl rs).bind fun z => .ok (q.1, z.2)
          | some _ => .stuck) _ := h
        by_cases fl : q.1.flat = true
        · -- what comes back holds nothing of ours
          obtain ⟨S', ev', op⟩ := S.open' out
          refine ⟨Fc Fo A true none fun _ => 0, _, _, sr_none (fun x z => ?_) (lvs.trans lds.symm) fun j d z => ?_, ?_⟩
          · rcases z with z | ⟨z, _⟩
            · exact S'.fa x z
            · cases z
          · obtain ⟨r, z1, z2⟩ := viewR_at ev z
            obtain ⟨v, B1, w1, w2, w3⟩ := R.at z1
            refine ⟨v, w1, w3.viewP S z2 (fun x hx => ?_) (fun x hx hz => ?_) fun i _ x hx hz => ?_⟩
            · rcases hx with hx | ⟨hx, _⟩
              · exact .inl (.inl hx)
              · cases hx
            · rcases hz with hz | ⟨hz, _⟩
              · exact out x (w2 x hx) hz
              · cases hz
            · rcases hz with hz | ⟨hz, _⟩
              · exact S'.fd i x hx hz
              · cases hz
          · rw [eq]
            intro H' B' C v P
            obtain ⟨q1, st, rv⟩ := call_none S' P fun _ => fl
            rw [q1, if_pos fl] at h
            exact h H' A B' v (st.opened S out) rv
        · cases q2 : q.2 with
          | some p => rw [q2] at h; exact h.elim
          | none =>
            rw [q2, if_neg fl] at h
            cases es : settleR sl rs with
            | stuck => rw [es] at h; exact h.elim
            | ok z =>
              obtain ⟨ds', sl'⟩ := z
              rw [es] at h
              obtain ⟨A1, S1, ev1, rp, vw, _⟩ := R.settles S nd out es
              rw [ev] at vw
              cases vw
              refine ⟨Fc Fo A1 false none fun _ => 0, _, _, sr_none (fun x z => ?_) (lvs.trans lds.symm) fun j d z => ?_, ?_⟩
              · rcases z with z | ⟨_, j, _, z⟩
                · exact S1.fa x z
                · obtain ⟨o, e⟩ := S1.there z
                  rw [e]; simp
              · obtain ⟨v, w1, w2⟩ := rp.get z
                refine ⟨v, w1, w2.mono (hide_mono fun x hx => ?_)⟩
                rcases hx with hx | ⟨_, j, _, hx⟩
                · exact .inl hx
                · exact .inr ⟨j, hx⟩
              · rw [eq]
                intro H' B' C v P
                obtain ⟨q1, st, rv⟩ := call_none S1 P fun z => by cases z
                exact h H' A1 B' v (st.later ev1) rv
      | some k =>
        dsimp only at ea2
        cases er : rs[k]? with
        | none => rw [er] at ea2; cases ea2
        | some r =>
          cases r with
          | va d => rw [er] at ea2; cases ea2
          | fr p => rw [er] at ea2; cases ea2
          | pr _ _ => rw [er] at ea2; cases ea2
          | s i =>
            rw [er] at ea2
            cases ei : sl[i]? with
            | none => simp only [ei] at ea2; cases ea2
            | some x =>
              cases x with
              | un => simp only [ei] at ea2; cases ea2
              | va d => simp only [ei] at ea2; cases ea2
              | ow b p =>
                simp only [ei] at ea2
                cases ea2
                cases q2 : q.2 with
                | none => simp only [er, q2] at h; exact h.elim
                | some p' =>
                  simp only [er, q2] at h
                  by_cases hroot : ((rs.set k (.va .non)).all fun r => decide (r.root ≠ some i)) = true
                  case neg => rw [if_neg hroot] at h; exact h.elim
                  rw [if_pos hroot] at h
                  have hroot : ∀ r ∈ rs.set k (.va .non), r.root ≠ some i := fun r hr => of_decide_eq_true (List.all_eq_true.mp hroot r hr)
                  obtain ⟨R', v, hv, hσ⟩ := R.omit er
                  have hkl : k < rs.length := (List.getElem?_eq_some_iff.mp er).1
                  have nroot : ∀ j r, j ≠ k → rs[j]? = some r → r.root ≠ some i := fun j r n e => hroot r (List.mem_of_getElem? (i := j) (by rw [List.getElem?_set_ne (Ne.symm n)]; exact e))
                  by_cases fl : q.1.flat = true ∧ p'.flat = true
                  · rw [if_pos fl] at h
                    obtain ⟨S', ev', op⟩ := S.open' out
                    obtain ⟨a, z1, o⟩ := S'.ow i b p ei
                    rw [hσ] at z1
                    have z1 : v = .ref a := by injection z1 with z1; injection z1
                    subst z1
                    refine ⟨Fc Fo A true (some i) fun _ => a, _, _, sr_some (k := k) (a := a) (p := p) (C := A i) (fun x z => ?_) (lvs.trans lds.symm) hv rfl (S'.nd i) (fun x hx z => ?_) (fun j d n z => ?_) ?_, ?_⟩
                    · rcases z with z | ⟨z, _⟩
                      · exact S'.fa x z
                      · cases z
                    · rcases z with z | ⟨z, _⟩
                      · exact S'.fd i x hx z
                      · cases z
                    · obtain ⟨r, z1, z2⟩ := viewR_at ev z
                      obtain ⟨v, B1, w1, w2, w3⟩ := R.at z1
                      refine ⟨v, w1, w3.viewP S z2 (fun x hx => ?_) (fun x hx hz => ?_) fun l hl x hx hz => ?_⟩
                      · rcases hx with (hx | ⟨hx, _⟩) | hx
                        · exact .inl (.inl hx)
                        · cases hx
                        · exact .inr ⟨i, hx⟩
                      · rcases hz with (hz | ⟨hz, _⟩) | hz
                        · exact out x (w2 x hx) hz
                        · cases hz
                        · exact S.fd i x hz (.inr (w2 x hx))
                      · rcases hz with (hz | ⟨hz, _⟩) | hz
                        · exact S'.fd l x hx hz
                        · cases hz
                        · refine S.dj l i x (fun y => ?_) hx hz
                          subst y; subst hl
                          exact nroot j _ n z1 rfl
                    · refine o.mono (hide_mono fun x hx => ?_) fun _ _ => rfl
                      rcases hx with (hx | ⟨hx, _⟩) | hx
                      · exact .inl hx
                      · cases hx
                      · exact .inr ⟨i, hx⟩
                    · rw [eq]
                      intro H' B' C v P
                      obtain ⟨st, rv⟩ := call_some S' ei hσ hv P q2 fun _ => fl
                      rw [ei] at h
                      exact h H' _ B' v (st.opened S out) rv
                  · rw [if_neg fl] at h
                    cases es : settleR sl (rs.set k (.va .non)) with
                    | stuck => rw [es] at h; exact h.elim
                    | ok z =>
                      obtain ⟨ds', sl'⟩ := z
                      rw [es] at h
                      obtain ⟨A1, S1, ev1, rp, vw, _⟩ := R'.settles S nd out es
                      rw [viewR_set ev] at vw
                      cases vw
                      have ei1 : sl'[i]? = some (.ow b p) := (settleR_keep hroot es).trans ei
                      obtain ⟨a, z1, o⟩ := S1.ow i b p ei1
                      rw [hσ] at z1
                      have z1 : v = .ref a := by injection z1 with z1; injection z1
                      subst z1
                      refine ⟨Fc Fo A1 false (some i) fun _ => a, _, _, sr_some (k := k) (a := a) (p := p) (C := A1 i) (fun x z => ?_) (lvs.trans lds.symm) hv rfl (S1.nd i) (fun x hx z => ?_) (fun j d n z => ?_) ?_, ?_⟩
                      · rcases z with z | ⟨_, j, _, z⟩
                        · exact S1.fa x z
                        · obtain ⟨o, e⟩ := S1.there z
                          rw [e]; simp
                      · rcases z with z | ⟨_, j, n, z⟩
                        · exact S1.fd i x hx z
                        · exact S1.dj i j x (fun y => n (congrArg some y)) hx z
                      · obtain ⟨v, w1, w2⟩ := rp.get (i := j) (d := d) (by rw [List.getElem?_set_ne (Ne.symm n)]; exact z)
                        rw [List.getElem?_set_ne (Ne.symm n)] at w1
                        refine ⟨v, w1, w2.mono (hide_mono fun x hx => ?_)⟩
                        rcases hx with (hx | ⟨_, l, _, hx⟩) | hx
                        · exact .inl hx
                        · exact .inr ⟨l, hx⟩
                        · exact .inr ⟨i, hx⟩
                      · refine o.mono (hide_mono fun x hx => ?_) fun _ _ => rfl
                        rcases hx with (hx | ⟨_, l, _, hx⟩) | hx
                        · exact .inl hx
                        · exact .inr ⟨l, hx⟩
                        · exact .inr ⟨i, hx⟩
                      · rw [eq]
                        intro H' B' C v P
                        obtain ⟨st, rv⟩ := call_some S1 ei1 hσ hv P q2 fun z => by cases z
                        simp only [Rs.bind_ok, ei1] at h
                        exact h H' _ B' v (st.later ev1) rv
/-- an instance is made -/
theorem make_go {cf : CF} {io : Option Nat} {c f : Nat} (S : SR G (U Fo B) H σ sl A) (nd : B.Nodup) (out : ∀ x ∈ B, ¬ Fo x) (R : RvRs G (vis H (U Fo B) A) H σ B vs rs) {Q : VK} {E : XK}
    (h : (doMake cf io c f rs sl).sat (Kn G Fo B A H σ Q)) {x dx : Addr} (hx : H x = none) (hdx : H dx = none) (hne : dx ≠ x) :
    spI G cf io f (.ref x :: vs) (upd (upd H dx (.own x)) x (.ins (G.CA c) dx [])) (fun v H' => v = .non ∧ Q (.ref x) H') E := by
  have h := Rs.sat_bind.mp h
  cases es : settleR sl rs with
  | stuck => rw [es] at h; exact h.elim
  | ok z =>
    obtain ⟨ds, sl'⟩ := z
    rw [es] at h
    have h := Rs.sat_bind.mp (show Rs.sat (Rs.bind (cf f _) _) _ from h)
    obtain ⟨A1, S1, ev1, rp, vw, _⟩ := R.settles S nd out es
    cases eq : cf f (.ow false (.obj c []) :: ds.map Sl.va) with
    | stuck => rw [eq] at h; exact h.elim
    | ok q =>
      rw [eq] at h
      have kp : Same H (upd (upd H dx (.own x)) x (.ins (G.CA c) dx [])) := fun b o e => by
        rw [upd_ne (ne_of_none e hx), upd_ne (ne_of_none e hdx)]; exact e
      have h : Rs.sat (match io, q.1, q.2 with
        | some 0, .va .non, some p => Rs.ok ((.fr p : Rv), sl')
        | _, _, _ => .stuck) (Kn G Fo B A H σ Q) := h
      split at h
      · rename_i _ p q1 q2 _ _ _
        have nF : ∀ y, (Fc Fo A1 false none fun _ => x) y → y ≠ x := fun y z w => by
          subst w
          rcases z with z | ⟨_, j, _, z⟩
          · exact S1.fa _ z hx
          · obtain ⟨o, e⟩ := S1.there z
            rw [hx] at e; cases e
        have S2 := (S1.grow kp List.nodup_nil fun _ h => nomatch h)
        have sr := sr_some (G := G) (H := upd (upd H dx (.own x)) x (.ins (G.CA c) dx [])) (vs := .ref x :: vs) (P := Fc Fo A1 false none fun _ => x) (k := 0) (a := x) (p := .obj c []) (C := [x]) (ds := .non :: ds) (fun y z => ?_) (by simp [R.len, viewR_len vw]) rfl rfl (by simp) (fun y hy z => ?_) (fun j d n z => ?_) ⟨dx, [], [], rfl, upd_same, rfl, rfl⟩
        · refine ⟨_, _, _, sr, ?_⟩
          show ((cf f _).sat _)
          rw [show ((D.non :: ds).map Sl.va).set 0 (.ow false (.obj c [])) = .ow false (.obj c []) :: ds.map Sl.va from rfl, eq]
          intro H' B' C v P
          have P1 := P.res
          rw [q1] at P1
          obtain ⟨eB, ev⟩ := P1
          subst eB
          have ev : v = .non := ev
          subst ev
          have P2 := P.ioR
          rw [q2] at P2
          obtain ⟨a, ea, oC⟩ := P2
          have ea : a = x := by
            have : some (V.ref x) = some (V.ref a) := ea
            injection this with this; injection this with this; exact this.symm
          subst ea
          refine ⟨rfl, h H' A1 C (.ref a) ?_ ⟨a, rfl, ?_⟩⟩
          · have ndC : C.Nodup := P.nd
            have outC : ∀ y ∈ C, ¬ Fo y := fun y hy z => P.out y hy (.inl z)
            have F1 : ∀ y o, ¬ (Fc Fo A1 false none fun _ => a) y → H y = some o → H' y = some o ∧ y ∉ C := fun y o n e => by
              have h1 : hide (upd (upd H dx (.own a)) a (.ins (G.CA c) dx [])) (Hd (Fc Fo A1 false none fun _ => a) fun m => if m = 0 then [a] else []) y = some o := by
                rw [hide_no fun z => ?_]
                · exact kp y o e
                · rcases z with z | ⟨j, z⟩
                  · exact n z
                  · have z : y ∈ (if j = 0 then [a] else []) := z
                    by_cases w : j = 0
                    · rw [if_pos w] at z
                      have : y = a := by simpa using z
                      subst this
                      rw [hx] at e; cases e
                    · rw [if_neg w] at z; cases z
              obtain ⟨h2, h3⟩ := hide_some (P.ext y o h1)
              exact ⟨h3, fun z => h2 (.inr z)⟩
            have fo' : ∀ y, (Fc Fo A1 false none fun _ => a) y → H' y = H y := fun y z => by
              rw [P.fo y z, upd_ne (nF y z), upd_ne fun w => ?_]
              subst w
              rcases z with z | ⟨_, j, _, z⟩
              · exact S1.fa _ z hdx
              · obtain ⟨o, e⟩ := S1.there z
                rw [hdx] at e; cases e
            have keepA : ∀ j y, y ∈ A1 j → H' y = H y ∧ y ∉ C := fun j y hy => by
              have z : (Fc Fo A1 false none fun _ => a) y := .inr ⟨rfl, j, by simp, hy⟩
              exact ⟨fo' y z, fun w => P.out y w z⟩
            have ev : Same (vis H Fo A1) (vis H' (U Fo C) A1) := hide_same fun y o n e => by
              obtain ⟨h1, h2⟩ := F1 y o (fun z => by
                rcases z with z | ⟨_, j, _, z⟩
                · exact n (.inl z)
                · exact n (.inr ⟨j, z⟩)) e
              refine ⟨fun z => ?_, h1⟩
              rcases z with (z | z) | z
              · exact n (.inl z)
              · exact h2 z
              · exact n (.inr z)
            refine ⟨⟨S1.len, fun j d e => ?_, fun j b p e => ?_, S1.no, S1.nd, S1.dj, fun j y hy z => ?_, fun y z => ?_, S1.ro⟩, ndC, outC, ev1.trans ev, fun y z => fo' y (.inl z)⟩
            · obtain ⟨w, w1, w2⟩ := S1.va j d e
              exact ⟨w, w1, w2.mono ev⟩
            · obtain ⟨a, w1, w2⟩ := S1.ow j b p e
              exact ⟨a, w1, w2.mono ev fun y hy => (keepA j y hy).1⟩
            · rcases z with z | z
              · exact S1.fd j y hy z
              · exact (keepA j y hy).2 z
            · rcases z with z | z
              · rw [fo' y (.inl z)]; exact S1.fa y z
              · obtain ⟨o, e⟩ := oC.there y z
                rw [e]; simp
          · refine oC.mono (hide_mono fun y z => ?_) fun _ _ => rfl
            rcases z with (z | z) | ⟨j, z⟩
            · exact .inl (.inl z)
            · exact .inr z
            · exact .inl (.inr ⟨rfl, j, by simp, z⟩)
        · rcases z with z | ⟨_, j, _, z⟩
          · intro w
            cases e : H y with
            | none => exact S1.fa y z e
            | some o => rw [kp y o e] at w; cases w
          · obtain ⟨o, e⟩ := S1.there z
            rw [kp y o e]; simp
        · have : y = x := by simpa using hy
          exact nF y z this
        · cases j with
          | zero => exact absurd rfl n
          | succ j =>
            obtain ⟨v, w1, w2⟩ := rp.get (i := j) (d := d) (by simpa using z)
            refine ⟨v, by simpa using w1, w2.mono (hide_same fun y o ny e => ⟨fun w => ?_, kp y o e⟩)⟩
            rcases w with (w | ⟨_, j, _, w⟩) | w
            · exact ny (.inl w)
            · exact ny (.inr ⟨j, w⟩)
            · have : y = x := by simpa using w
              subst this
              rw [hx] at e; cases e
      · exact h.elim
end
end Pf

/-! Pf7: expressions -/
namespace Pf
open PySem L2
theorem PE.imp {X : Cx} {e : Expr} {t t' : TE} (h : L2.PE X e t) (k : ∀ σ H Q, t' σ H Q → t σ H Q) : L2.PE X e t' := ⟨fun pins s σ H Q I q => h.run pins s σ H Q I (k σ H Q q)⟩
theorem PT.imp {X : Cx} {e : Expr} {t t' : TT} (h : L2.PT X e t) (k : ∀ σ H Q, t' σ H Q → t σ H Q) : L2.PT X e t' := ⟨fun pins s σ H Q I q => h.run pins s σ H Q I (k σ H Q q)⟩
theorem PA.imp {X : Cx} {es : List Expr} {t t' : TA} (h : L2.PA X es t) (k : ∀ σ H Q, t' σ H Q → t σ H Q) : L2.PA X es t' := ⟨fun pos pins s σ H Q I q => h.run pos pins s σ H Q I (k σ H Q q)⟩
section
variable (G : Gx) (T : Tab) (cf : CF)
/-- what may follow an expression -/
abbrev KE (Fo : Fx) (A : Nat → List Addr) (H : Hp) (σ : L2.St) (Q : VK) (q : Rv × Sls) : Prop := ∀ H' A' B v, Post G Fo A H B A' H' σ q.2 → RvR G (vis H' (U Fo B) A') H' σ B v q.1 → Q v H'
abbrev KT (Fo : Fx) (A : Nat → List Addr) (H : Hp) (σ : L2.St) (Q : Bool → Hp → Prop) (q : Bool × Sls) : Prop := ∀ H' A', Post G Fo A H [] A' H' σ q.2 → Q q.1 H'
abbrev KA (Fo : Fx) (A : Nat → List Addr) (H : Hp) (σ : L2.St) (Q : List V → Hp → Prop) (q : List Rv × Sls) : Prop := ∀ H' A' B vs, Post G Fo A H B A' H' σ q.2 → RvRs G (vis H' (U Fo B) A') H' σ B vs q.1 → Q vs H'
def tE (p : PE) : TE := fun σ H Q => ∃ Fo A sl, SR G Fo H σ sl A ∧ (evE T cf p sl).sat (KE G Fo A H σ Q)
def tT (p : PE) : TT := fun σ H Q => ∃ Fo A sl, SR G Fo H σ sl A ∧ (evT T cf p sl).sat (KT G Fo A H σ Q)
def tAs (es : PEs) : TA := fun σ H Q => ∃ Fo A sl, SR G Fo H σ sl A ∧ (evEs T cf es sl).sat (KA G Fo A H σ Q)
end
/-- an expression's reading -/
abbrev RE (G : Gx) (T : Tab) (cf : CF) (X : Cx) (e : Expr) (p : PE) : Prop := L2.PE X e (tE G T cf p)
abbrev RT (G : Gx) (T : Tab) (cf : CF) (X : Cx) (e : Expr) (p : PE) : Prop := L2.PT X e (tT G T cf p)
abbrev RA (G : Gx) (T : Tab) (cf : CF) (X : Cx) (es : List Expr) (ps : PEs) : Prop := L2.PA X es (tAs G T cf ps)
section
variable {G : Gx} {T : Tab} {cf : CF} {Fo : Fx} {A A1 A2 A' : Nat → List Addr} {H H1 H2 H' Hs Hs' : Hp} {σ : L2.St} {sl sl1 sl2 sl' : Sls} {B B1 B2 B' : List Addr} {v : V} {r : Rv}
theorem Post.opn (P : Post G Fo A H B A1 H1 σ sl1) : Post G Fo A H [] A1 H1 σ sl1 ∧ SR G Fo H1 σ sl1 A1 ∧ Same (vis H1 (U Fo B) A1) (vis H1 Fo A1) := by
  obtain ⟨S, ev, _⟩ := P.st.open' P.out
  exact ⟨⟨by rw [U_nil]; exact S, List.nodup_nil, (fun _ h => absurd h List.not_mem_nil), by rw [U_nil]; exact P.ext.trans ev, P.fo⟩, S, ev⟩
theorem Post.and (P : Post G Fo A H [] A1 H1 σ sl1) (P' : Post G Fo A1 H1 B A2 H2 σ sl2) : Post G Fo A H B A2 H2 σ sl2 := by
  have := Post.trans P (B2 := B) (A2 := A2) (H2 := H2) (sl2 := sl2) (by rw [U_nil]; exact P')
  rw [List.nil_append] at this
  exact this
theorem Post.settled (P : Post G Fo A H B A1 H1 σ sl1) (S : SR G Fo H1 σ sl2 A2) (ev : Same (vis H1 (U Fo B) A1) (vis H1 Fo A2)) : Post G Fo A H [] A2 H1 σ sl2 :=
  ⟨by rw [U_nil]; exact S, List.nodup_nil, (fun _ h => absurd h List.not_mem_nil), by rw [U_nil]; exact P.ext.trans ev, P.fo⟩
theorem RepV.mono {v : V} {d : D} (e : Same Hs Hs') (h : RepV G Hs H v d) : RepV G Hs' H v d := by
  cases d with
  | lst ds =>
    obtain ⟨a, vs, e1, e2, e3⟩ := h
    exact ⟨a, vs, e1, e2, e3.mono e⟩
  | tup ds => exact Rep.mono e h
  | _ => exact h
theorem RepVs.mono (e : Same Hs Hs') : ∀ {ds : List D} {vs : List V}, RepVs G Hs H vs ds → RepVs G Hs' H vs ds
  | [], _, h => h
  | d :: ds, vs, h => by
    obtain ⟨v, r, e1, e2, e3⟩ := h
    exact ⟨v, r, e1, e2.mono e, RepVs.mono e e3⟩
theorem KE.kt {Q : VK} {r : Rv} (k : KE G Fo A H σ Q (r, sl1)) (P : Post G Fo A H [] A1 H1 σ sl1) : Kt G Fo A1 H1 σ sl1 Q r := fun H' B v P' R => k H' A1 B v (P.and P') R
theorem KE.va {Q : VK} {d : D} (k : KE G Fo A H σ Q (.va d, sl1)) (P : Post G Fo A H [] A1 H1 σ sl1) {v : V} (h : Rep G (vis H1 Fo A1) v d) : Q v H1 := k H1 A1 [] v P ⟨rfl, by rw [U_nil]; exact h⟩
/-- one operand -/
theorem go1 {pa : PE} {m : D → Sls → Rs (Rv × Sls)} {Q : VK} {Q2 : V → Hp → Prop} (S : SR G Fo H σ sl A) (h : ((evE T cf pa sl).bind fun p => (Rs.of (view p.2 p.1)).bind fun x => m x p.2).sat (KE G Fo A H σ Q))
    (k : ∀ d sl' H1 A1 x, Post G Fo A H [] A1 H1 σ sl' → SR G Fo H1 σ sl' A1 → RepV G (vis H1 Fo A1) H1 x d → (m d sl').sat (KE G Fo A H σ Q) → Q2 x H1) : tE G T cf pa σ H Q2 := by
  refine ⟨Fo, A, sl, S, Rs.sat_mono (Rs.sat_bind.mp h) fun p h H1 A1 B1 x P1 R1 => ?_⟩
  obtain ⟨d, e, h⟩ := Rs.of_sat (Rs.sat_bind.mp h)
  obtain ⟨P, S', ev⟩ := P1.opn
  exact k d p.2 H1 A1 x P S' ((R1.view P1.st e).mono ev) h
theorem go1b {pa : PE} {m : D → Sls → Rs (Bool × Sls)} {Q : Bool → Hp → Prop} {Q2 : V → Hp → Prop} (S : SR G Fo H σ sl A) (h : ((evE T cf pa sl).bind fun p => (Rs.of (view p.2 p.1)).bind fun x => m x p.2).sat (KT G Fo A H σ Q))
    (k : ∀ d sl' H1 A1 x, Post G Fo A H [] A1 H1 σ sl' → SR G Fo H1 σ sl' A1 → RepV G (vis H1 Fo A1) H1 x d → (m d sl').sat (KT G Fo A H σ Q) → Q2 x H1) : tE G T cf pa σ H Q2 := by
  refine ⟨Fo, A, sl, S, Rs.sat_mono (Rs.sat_bind.mp h) fun p h H1 A1 B1 x P1 R1 => ?_⟩
  obtain ⟨d, e, h⟩ := Rs.of_sat (Rs.sat_bind.mp h)
  obtain ⟨P, S', ev⟩ := P1.opn
  exact k d p.2 H1 A1 x P S' ((R1.view P1.st e).mono ev) h
theorem RvR.same (e : Same Hs Hs') (h : RvR G Hs H σ B v r) : RvR G Hs' H σ B v r := RvR.mono e (fun _ _ => rfl) h
/-- two operands -/
theorem go2 {α : Type} {pa pb : PE} {m : Rv × Sls → Rv × Sls → Rs α} {K : α → Prop} {Q2 : V → V → Hp → Prop} (S : SR G Fo H σ sl A)
    (h : ((evE T cf pa sl).bind fun p => (evE T cf pb p.2).bind fun q => m p q).sat K)
    (k : ∀ p q H1 A1 B1 B2 x y, Post G Fo A H (B1 ++ B2) A1 H1 σ q.2 → RvR G (vis H1 (U Fo (B1 ++ B2)) A1) H1 σ B1 x p.1 → RvR G (vis H1 (U Fo (B1 ++ B2)) A1) H1 σ B2 y q.1 → (m p q).sat K → Q2 x y H1) :
    tE G T cf pa σ H fun x H1 => tE G T cf pb σ H1 fun y H2 => Q2 x y H2 := by
  refine ⟨Fo, A, sl, S, Rs.sat_mono (Rs.sat_bind.mp h) fun p h H1 A1 B1 x P1 R1 => ⟨U Fo B1, A1, p.2, P1.st, Rs.sat_mono (Rs.sat_bind.mp h) fun q h H2 A2 B2 y P2 R2 => ?_⟩⟩
  have R1' := R1.later P2
  rw [U_app] at R1' R2
  exact k p q H2 A2 B1 B2 x y (P1.trans P2) R1' R2 h
theorem go2v {α : Type} {pa pb : PE} {m : D → D → Sls → Rs α} {K : α → Prop} {Q2 : V → V → Hp → Prop} (S : SR G Fo H σ sl A)
    (h : ((evE T cf pa sl).bind fun p => (evE T cf pb p.2).bind fun q => (Rs.of (view q.2 p.1)).bind fun x => (Rs.of (view q.2 q.1)).bind fun y => m x y q.2).sat K)
    (k : ∀ d1 d2 sl' H1 A1 x y, Post G Fo A H [] A1 H1 σ sl' → SR G Fo H1 σ sl' A1 → RepV G (vis H1 Fo A1) H1 x d1 → RepV G (vis H1 Fo A1) H1 y d2 → (m d1 d2 sl').sat K → Q2 x y H1) :
    tE G T cf pa σ H fun x H1 => tE G T cf pb σ H1 fun y H2 => Q2 x y H2 := by
  refine go2 S h fun p q H1 A1 B1 B2 x y P R1 R2 h => ?_
  obtain ⟨d1, e1, h⟩ := Rs.of_sat (Rs.sat_bind.mp h)
  obtain ⟨d2, e2, h⟩ := Rs.of_sat (Rs.sat_bind.mp h)
  obtain ⟨P', S', ev⟩ := P.opn
  exact k d1 d2 q.2 H1 A1 x y P' S' ((R1.view P.st e1).mono ev) ((R2.view P.st e2).mono ev) h
theorem RvR.root (S : SR G Fo H σ sl A) (h : RvR G (vis H Fo A) H σ B v r) : True := trivial
/-! ### names, constants -/
theorem var_go {i : Nat} {Q : VK} (h : tE G T cf (.var i) σ H Q) : tVar i σ H Q := by
  obtain ⟨Fo, A, sl, S, h⟩ := h
  unfold evE at h
  cases e : sl[i]? with
  | none => rw [e] at h; exact h.elim
  | some x =>
    rw [e] at h
    cases x with
    | un => exact h.elim
    | va d =>
      obtain ⟨v, e1, e2⟩ := S.va i d e
      exact ⟨v, e1, KE.va (sl1 := sl) (d := d) h (Post.refl S) e2⟩
    | ow b p =>
      obtain ⟨a, e1, e2⟩ := S.ow i b p e
      exact ⟨.ref a, e1, (show KE G Fo A H σ Q (.s i, sl) from h) H A [] (.ref a) (Post.refl S) ⟨rfl, e1⟩⟩
theorem cst_go {p : PE} {d : D} {v : V} {Q : VK} (hp : ∀ sl, evE T cf p sl = .ok (.va d, sl)) (hr : ∀ Hs, Rep G Hs v d) (h : tE G T cf p σ H Q) : tC v σ H Q := by
  obtain ⟨Fo, A, sl, S, h⟩ := h
  rw [hp] at h
  exact KE.va (sl1 := sl) (d := d) h (Post.refl S) (hr _)
variable {X : Cx}
theorem re_var (i : Nat) {x : Str} {pos : Pos} (hN : X.N[i]? = some x := by rfl) (hv : Vis X.env.scope x := by first | exact Or.inl rfl | exact Or.inr (Or.inl rfl) | exact Or.inr (Or.inr rfl)) (hd : (x == ("__debug__" : Str)) = false := by decide)
    (hcd : (x == ("__classdict__" : Str)) = false := by decide) : RE G T cf X (.Name x pos) (.var i) := PE.imp (pe_var hN hv hd hcd) fun _ _ _ => var_go
theorem re_nvr {e : Expr} : RE G T cf X e .nvr := ⟨fun pins s σ H Q I h => by
  obtain ⟨Fo, A, sl, S, h⟩ := h
  rw [evE] at h
  exact h.elim⟩
theorem re_int {i j pos} : RE G T cf X (.Constant (.int i) j pos) (.cI i) := PE.imp pe_int fun _ _ _ => cst_go (d := .int i) (fun _ => by unfold evE; rfl) fun _ => rfl
theorem re_bl {i j pos} : RE G T cf X (.Constant (.bool i) j pos) (.cB i) := PE.imp pe_bl fun _ _ _ => cst_go (d := .bl i) (fun _ => by unfold evE; rfl) fun _ => rfl
theorem re_str {i j pos} : RE G T cf X (.Constant (.str i) j pos) (.cS i) := PE.imp pe_str fun _ _ _ => cst_go (d := .str i) (fun _ => by unfold evE; rfl) fun _ => rfl
theorem re_non {j pos} : RE G T cf X (.Constant .none j pos) .cN := PE.imp pe_non fun _ _ _ => cst_go (d := .non) (fun _ => by unfold evE; rfl) fun _ => rfl
theorem re_gI {x : Str} {i : Int} {u : Value} {pos : Pos} (hg : Gl X x) (hm : X.mg x = some u) (r : RelV (.int i) u) (hd : (x == ("__debug__" : Str)) = false := by decide) : RE G T cf X (.Name x pos) (.gI x i) :=
  PE.imp (pe_glob hg hm r hd) fun _ _ _ => cst_go (d := .int i) (fun _ => by unfold evE; rfl) fun _ => rfl
variable {a b c e : Expr} {es : List Expr} {pa pb pc : PE} {ps : PEs} {pos : Pos}
/-! ### operators -/
theorem bin_i {op : BOp} {Q : VK} (h : tE G T cf (.bin op pa pb) σ H Q) : tOp (rBin G.K op) (tE G T cf pa) (tE G T cf pb) σ H Q := by
  obtain ⟨Fo, A, sl, S, h⟩ := h
  unfold evE at h
  refine go2v (m := fun x y sl => (binD op x y).bind fun r => .ok (r, sl)) S h fun d1 d2 sl' H1 A1 x y P S' r1 r2 h => bin_go S' r1 r2 (Rs.sat_mono (Rs.sat_bind.mp h) fun r k => KE.kt k P)
theorem re_bin (op : BOp) (ha : RE G T cf X a pa) (hb : RE G T cf X b pb) (hK : G.K = X.K := by rfl) : RE G T cf X (.BinOp a (toOp op) b pos) (.bin op pa pb) :=
  PE.imp (pe_op (by have := opr_bin X op; rw [← hK] at this; exact this) ha hb) fun _ _ _ => bin_i
theorem cmp_i {op : COp} {Q : VK} (h : tE G T cf (.cmp op pa pb) σ H Q) : tOp (rCmp G.K op) (tE G T cf pa) (tE G T cf pb) σ H Q := by
  obtain ⟨Fo, A, sl, S, h⟩ := h
  unfold evE at h
  refine go2v (m := fun x y sl => (cmpD op x y).bind fun k => Rs.ok ((Rv.va (.bl k), sl) : Rv × Sls)) S h fun d1 d2 sl' H1 A1 x y P S' r1 r2 h => cmp_go r1 r2 (Rs.sat_bind.mp h) fun k z => KE.va (sl1 := sl') (d := .bl k) z P rfl
theorem Room.u65 {n : Nat} {A : Around} (r : Room n A) : A.units + 65 < cLine := by have := r.un; omega
theorem re_cmp (op : COp) (ha : RE G T cf X a pa) (hb : RE G T cf X b pb) (hu : X.A.units + 65 < cLine) (hm : behindInMarks (toCmp op) b = false := by first | exact nobehind _ (by decide) (by decide) | rfl) (hK : G.K = X.K := by rfl) : RE G T cf X (.Compare a [toCmp op] [b] pos) (.cmp op pa pb) :=
  PE.imp (pe_cmpR (by have := opr_cmp hu op; rw [← hK] at this; exact this) ha hb hm) fun _ _ _ => cmp_i
/-! ### tests -/
def PE.tst : PE → Bool
  | .not _ => true
  | .and _ => true
  | .or _ => true
  | _ => false
theorem evT_of {p : PE} (hp : p.tst = false) (sl : Sls) : evT T cf p sl = (evE T cf p sl).bind fun p => (Rs.of (view p.2 p.1)).bind fun x => (boolD x).bind fun k => .ok (k, p.2) := by
  cases p <;> first | (simp [PE.tst] at hp; done) | (unfold evT; rfl)
theorem bool_go {d : D} {α : Type} {f : Bool → Rs α} {K : α → Prop} (h : ((boolD d).bind f).sat K) : ∃ k, d = .bl k ∧ (f k).sat K := by
  cases d with
  | bl k => exact ⟨k, rfl, h⟩
  | _ => exact h.elim
theorem val_i {p : PE} (hp : p.tst = false) {Q : Bool → Hp → Prop} (h : tT G T cf p σ H Q) : tE G T cf p σ H fun x H1 => ∃ k, x = .bl k ∧ Q k H1 := by
  obtain ⟨Fo, A, sl, S, h⟩ := h
  rw [evT_of hp] at h
  refine go1b (m := fun x sl => (boolD x).bind fun k => .ok (k, sl)) S h fun d sl' H1 A1 x P S' r h => ?_
  obtain ⟨k, e, h2⟩ := bool_go h
  clear h
  subst e
  exact ⟨k, r, h2 H1 A1 P⟩
theorem rt_val {p : PE} (h : RE G T cf X e p) (hp : p.tst = false := by rfl) (he : ∀ whole, isTrue e X.env whole = (do let v ← whole; standAt e.pos; holding [v] (truthy v)) := by intro _; rfl) : RT G T cf X e p :=
  PT.imp (pt_val h he) fun _ _ _ q => val_i hp q
theorem rt_nvr {e : Expr} : RT G T cf X e .nvr := ⟨fun pins s σ H Q I h => by
  obtain ⟨Fo, A, sl, S, h⟩ := h
  rw [evT_of rfl, evE] at h
  exact h.elim⟩
theorem rt_cmp (op : COp) (ha : RE G T cf X a pa) (hb : RE G T cf X b pb) (hu : X.A.units + 65 < cLine) (hm : behindInMarks (toCmp op) b = false := by first | exact nobehind _ (by decide) (by decide) | rfl) (hK : G.K = X.K := by rfl) : RT G T cf X (.Compare a [toCmp op] [b] pos) (.cmp op pa pb) :=
  PT.imp (pt_cmpR (by have := opr_cmp hu op; rw [← hK] at this; exact this) ha hb hm) fun _ _ _ q => cmp_i (val_i rfl q)
theorem chain_i {op op' : COp} {Q : VK} (h : tE G T cf (.chain op op' pa pb pc) σ H Q) : tChain (rCmp G.K op) (rCmp G.K op') (tE G T cf pa) (tE G T cf pb) (tE G T cf pc) σ H Q := by
  obtain ⟨Fo, A, sl, S, h⟩ := h
  unfold evE at h
  refine go2 S h fun p q H1 A1 B1 B2 x y P R1 R2 h => ?_
  obtain ⟨d1, e1, h⟩ := Rs.of_sat (Rs.sat_bind.mp h)
  obtain ⟨d2, e2, h⟩ := Rs.of_sat (Rs.sat_bind.mp h)
  refine cmp_go (R1.view P.st e1) (R2.view P.st e2) (Rs.sat_bind.mp h) fun k h => ⟨k, rfl, ?_⟩
  cases k with
  | false =>
    rw [if_neg Bool.false_ne_true] at h ⊢
    exact KE.va (sl1 := q.2) (d := .bl false) h P.opn.1 rfl
  | true =>
    rw [if_pos rfl] at h ⊢
    refine ⟨U Fo (B1 ++ B2), A1, q.2, P.st, Rs.sat_mono (Rs.sat_bind.mp h) fun r h H2 A2 B3 z P3 R3 => ?_⟩
    obtain ⟨d2', e2', h⟩ := Rs.of_sat (Rs.sat_bind.mp h)
    obtain ⟨d3, e3, h⟩ := Rs.of_sat (Rs.sat_bind.mp h)
    have R2' : RvR G (vis H2 (U (U Fo (B1 ++ B2)) B3) A2) H2 σ B2 y q.1 := R2.mono P3.ext fun x hx => P3.fo x (.inr (List.mem_append_right _ hx))
    refine cmp_go (R2'.view P3.st e2') (R3.view P3.st e3) (Rs.sat_bind.mp h) fun k h => ?_
    exact KE.va (sl1 := r.2) (d := .bl k) h (P.trans P3).opn.1 rfl
theorem re_chain (op op' : COp) (ha : RE G T cf X a pa) (hb : RE G T cf X b pb) (hc : RE G T cf X c pc) (hu : X.A.units + 65 < cLine) (hm : lastMarks [toCmp op, toCmp op'] [b, c] = false := by with_unfolding_all rfl) (hK : G.K = X.K := by rfl) :
    RE G T cf X (.Compare a [toCmp op, toCmp op'] [b, c] pos) (.chain op op' pa pb pc) :=
  PE.imp (pe_chain (by have := opr_cmp hu op; rw [← hK] at this; exact this) (by have := opr_cmp hu op'; rw [← hK] at this; exact this) ha hb hc hm) fun _ _ _ => chain_i
theorem rt_chain (op op' : COp) (ha : RE G T cf X a pa) (hb : RE G T cf X b pb) (hc : RE G T cf X c pc) (hu : X.A.units + 65 < cLine) (hm : lastMarks [toCmp op, toCmp op'] [b, c] = false := by with_unfolding_all rfl) (hK : G.K = X.K := by rfl) :
    RT G T cf X (.Compare a [toCmp op, toCmp op'] [b, c] pos) (.chain op op' pa pb pc) :=
  PT.imp (pt_chain (by have := opr_cmp hu op; rw [← hK] at this; exact this) (by have := opr_cmp hu op'; rw [← hK] at this; exact this) ha hb hc hm) fun _ _ _ q => chain_i (val_i rfl q)
theorem isN_i {Q : VK} (h : tE G T cf (.isN pa) σ H Q) : tIsN (tE G T cf pa) σ H Q := by
  obtain ⟨Fo, A, sl, S, h⟩ := h
  unfold evE at h
  refine go1 (m := fun x sl => .ok (.va (.bl (nonD x)), sl)) S h fun d sl' H1 A1 x P S' r h => ?_
  have e : decide (x = .non) = nonD d := by
    cases d <;> first | (obtain ⟨_, _, rfl, _⟩ := r; rfl) | (obtain ⟨_, _, _, rfl, _⟩ := r; rfl) | (obtain ⟨_, rfl, _⟩ := r; rfl) | (rw [show x = _ from r]; rfl)
  rw [e]
  exact KE.va (sl1 := sl') (d := .bl _) h P rfl
theorem notN_i {Q : VK} (h : tE G T cf (.notN pa) σ H Q) : tNotN (tE G T cf pa) σ H Q := by
  obtain ⟨Fo, A, sl, S, h⟩ := h
  unfold evE at h
  refine go1 (m := fun x sl => .ok (.va (.bl (!nonD x)), sl)) S h fun d sl' H1 A1 x P S' r h => ?_
  have e : (!decide (x = .non)) = !nonD d := by
    cases d <;> first | (obtain ⟨_, _, rfl, _⟩ := r; rfl) | (obtain ⟨_, _, _, rfl, _⟩ := r; rfl) | (obtain ⟨_, rfl, _⟩ := r; rfl) | (rw [show x = _ from r]; rfl)
  rw [e]
  exact KE.va (sl1 := sl') (d := .bl _) h P rfl
theorem re_isN {j pos'} (ha : RE G T cf X a pa) : RE G T cf X (.Compare a [.Is] [.Constant .none j pos'] pos) (.isN pa) := PE.imp (pe_cmp (pc_isN ha)) fun _ _ _ => isN_i
theorem re_notN {j pos'} (ha : RE G T cf X a pa) : RE G T cf X (.Compare a [.IsNot] [.Constant .none j pos'] pos) (.notN pa) := PE.imp (pe_cmp (pc_notN ha)) fun _ _ _ => notN_i
theorem rt_isN {j pos'} (ha : RE G T cf X a pa) : RT G T cf X (.Compare a [.Is] [.Constant .none j pos'] pos) (.isN pa) := PT.imp (pt_cmp (pc_isN ha)) fun _ _ _ q => isN_i (val_i rfl q)
theorem rt_notN {j pos'} (ha : RE G T cf X a pa) : RT G T cf X (.Compare a [.IsNot] [.Constant .none j pos'] pos) (.notN pa) := PT.imp (pt_cmp (pc_notN ha)) fun _ _ _ q => notN_i (val_i rfl q)
theorem neg_i {Q : VK} (h : tE G T cf (.neg pa) σ H Q) : tUn (rU fun i => .int (-i)) (tE G T cf pa) σ H Q := by
  obtain ⟨Fo, A, sl, S, h⟩ := h
  unfold evE at h
  refine go1 (m := fun x sl => (intD x).bind fun i => .ok (.va (.int (-i)), sl)) S h fun d sl' H1 A1 x P S' r h => ?_
  cases d with
  | int i => exact ⟨i, r, KE.va (sl1 := sl') (d := .int (-i)) h P rfl⟩
  | _ => exact h.elim
theorem re_neg (ha : RE G T cf X a pa) : RE G T cf X (.UnaryOp .USub a pos) (.neg pa) := PE.imp (pe_un un_neg ha) fun _ _ _ => neg_i
theorem not_i {Q : VK} (h : tE G T cf (.not pa) σ H Q) : tNotV (tE G T cf pa) σ H Q := by
  obtain ⟨Fo, A, sl, S, h⟩ := h
  unfold evE at h
  refine go1 (m := fun x sl => (boolD x).bind fun k => .ok (.va (.bl (!k)), sl)) S h fun d sl' H1 A1 x P S' r h => ?_
  obtain ⟨k, e, h2⟩ := bool_go h
  clear h
  subst e
  exact ⟨k, r, KE.va (sl1 := sl') (d := .bl (!k)) h2 P rfl⟩
theorem re_not (ha : RE G T cf X a pa) : RE G T cf X (.UnaryOp .Not a pos) (.not pa) := PE.imp (pe_not ha) fun _ _ _ => not_i
theorem rt_not (ha : RT G T cf X a pa) : RT G T cf X (.UnaryOp .Not a pos) (.not pa) := PT.imp (pt_not ha) fun σ H Q h => by
  obtain ⟨Fo, A, sl, S, h⟩ := h
  unfold evT at h
  exact ⟨Fo, A, sl, S, Rs.sat_mono (Rs.sat_bind.mp h) fun p h => h⟩
theorem KT.and {Q : Bool → Hp → Prop} {q : Bool × Sls} (P : Post G Fo A H [] A1 H1 σ sl1) (k : KT G Fo A H σ Q q) : KT G Fo A1 H1 σ Q q := fun H2 A2 P2 => k H2 A2 (P.and P2)
theorem KE.and {Q : VK} {q : Rv × Sls} (P : Post G Fo A H [] A1 H1 σ sl1) (k : KE G Fo A H σ Q q) : KE G Fo A1 H1 σ Q q := fun H2 A2 B v P2 R2 => k H2 A2 B v (P.and P2) R2
theorem Post.sr (P : Post G Fo A H [] A1 H1 σ sl1) : SR G Fo H1 σ sl1 A1 := by
  have := P.st
  rw [U_nil] at this
  exact this
theorem rt_and1 (ha : RT G T cf X a pa) : L2.PW X (.BoolOp .And [a] pos) (tT G T cf (.and (.cons pa .nil))) := ⟨fun wh pins s σ H Q I h => (pw_and1 ha).run wh pins s σ H Q I (by
  obtain ⟨Fo, A, sl, S, h⟩ := h
  unfold evT evAndT at h
  exact ⟨Fo, A, sl, S, h⟩)⟩
theorem rt_or1 (ha : RT G T cf X a pa) : L2.PW X (.BoolOp .Or [a] pos) (tT G T cf (.or (.cons pa .nil))) := ⟨fun wh pins s σ H Q I h => (pw_or1 ha).run wh pins s σ H Q I (by
  obtain ⟨Fo, A, sl, S, h⟩ := h
  unfold evT evOrT at h
  exact ⟨Fo, A, sl, S, h⟩)⟩
theorem rt_and {rest : List Expr} {p2 : PE} {ps : PEs} (ha : RT G T cf X a pa) (hb : L2.PW X (.BoolOp .And (b :: rest) pos) (tT G T cf (.and (.cons p2 ps)))) : L2.PW X (.BoolOp .And (a :: b :: rest) pos) (tT G T cf (.and (.cons pa (.cons p2 ps)))) :=
  ⟨fun wh pins s σ H Q I h => (pw_and ha hb).run wh pins s σ H Q I (by
    obtain ⟨Fo, A, sl, S, h⟩ := h
    unfold evT evAndT at h
    refine ⟨Fo, A, sl, S, Rs.sat_mono (Rs.sat_bind.mp h) fun p h H1 A1 P => ?_⟩
    by_cases z : p.1 = true
    · rw [if_pos z] at h ⊢
      exact ⟨Fo, A1, p.2, P.sr, by unfold evT; exact Rs.sat_mono h fun q k => k.and P⟩
    · rw [if_neg z] at h ⊢
      exact h H1 A1 P)⟩
theorem rt_or {rest : List Expr} {p2 : PE} {ps : PEs} (ha : RT G T cf X a pa) (hb : L2.PW X (.BoolOp .Or (b :: rest) pos) (tT G T cf (.or (.cons p2 ps)))) : L2.PW X (.BoolOp .Or (a :: b :: rest) pos) (tT G T cf (.or (.cons pa (.cons p2 ps)))) :=
  ⟨fun wh pins s σ H Q I h => (pw_or ha hb).run wh pins s σ H Q I (by
    obtain ⟨Fo, A, sl, S, h⟩ := h
    unfold evT evOrT at h
    refine ⟨Fo, A, sl, S, Rs.sat_mono (Rs.sat_bind.mp h) fun p h H1 A1 P => ?_⟩
    by_cases z : p.1 = true
    · rw [if_pos z] at h ⊢
      exact h H1 A1 P
    · rw [if_neg z] at h ⊢
      exact ⟨Fo, A1, p.2, P.sr, by unfold evT; exact Rs.sat_mono h fun q k => k.and P⟩)⟩
theorem re_and1 (ha : RE G T cf X a pa) : RE G T cf X (.BoolOp .And [a] pos) (.and (.cons pa .nil)) := PE.imp (pe_one ha) fun σ H Q h => by
  obtain ⟨Fo, A, sl, S, h⟩ := h
  unfold evE evAnd at h
  exact ⟨Fo, A, sl, S, h⟩
theorem re_or1 (ha : RE G T cf X a pa) : RE G T cf X (.BoolOp .Or [a] pos) (.or (.cons pa .nil)) := PE.imp (pe_one ha) fun σ H Q h => by
  obtain ⟨Fo, A, sl, S, h⟩ := h
  unfold evE evOr at h
  exact ⟨Fo, A, sl, S, h⟩
theorem re_and {rest : List Expr} {p2 : PE} {ps : PEs} (ha : RE G T cf X a pa) (hb : RE G T cf X (.BoolOp .And (b :: rest) pos) (.and (.cons p2 ps))) : RE G T cf X (.BoolOp .And (a :: b :: rest) pos) (.and (.cons pa (.cons p2 ps))) :=
  PE.imp (pe_and ha hb) fun σ H Q h => by
    obtain ⟨Fo, A, sl, S, h⟩ := h
    unfold evE evAnd at h
    refine go1 (m := fun x sl => (boolD x).bind fun k => if k = true then evAnd T cf (.cons p2 ps) sl else .ok (.va (.bl false), sl)) S h fun d sl' H1 A1 x P S' r h => ?_
    obtain ⟨k, e, h2⟩ := bool_go h
    clear h
    subst e
    refine ⟨k, r, ?_⟩
    by_cases z : k = true
    · rw [if_pos z] at h2 ⊢
      exact ⟨Fo, A1, sl', S', by unfold evE; exact Rs.sat_mono h2 fun q k => k.and P⟩
    · rw [if_neg z] at h2 ⊢
      exact KE.va (sl1 := sl') (d := .bl false) h2 P rfl
theorem re_or {rest : List Expr} {p2 : PE} {ps : PEs} (ha : RE G T cf X a pa) (hb : RE G T cf X (.BoolOp .Or (b :: rest) pos) (.or (.cons p2 ps))) : RE G T cf X (.BoolOp .Or (a :: b :: rest) pos) (.or (.cons pa (.cons p2 ps))) :=
  PE.imp (pe_or ha hb) fun σ H Q h => by
    obtain ⟨Fo, A, sl, S, h⟩ := h
    unfold evE evOr at h
    refine go1 (m := fun x sl => (boolD x).bind fun k => if k = true then .ok (.va (.bl true), sl) else evOr T cf (.cons p2 ps) sl) S h fun d sl' H1 A1 x P S' r h => ?_
    obtain ⟨k, e, h2⟩ := bool_go h
    clear h
    subst e
    refine ⟨k, r, ?_⟩
    by_cases z : k = true
    · rw [if_pos z] at h2 ⊢
      exact KE.va (sl1 := sl') (d := .bl true) h2 P rfl
    · rw [if_neg z] at h2 ⊢
      exact ⟨Fo, A1, sl', S', by unfold evE; exact Rs.sat_mono h2 fun q k => k.and P⟩
theorem re_ife (hc : RT G T cf X c pc) (ha : RE G T cf X a pa) (hb : RE G T cf X b pb) : RE G T cf X (.IfExp c a b pos) (.ife pc pa pb) :=
  PE.imp (pe_ifExp hc ha hb) fun σ H Q h => by
    obtain ⟨Fo, A, sl, S, h⟩ := h
    unfold evE at h
    refine ⟨Fo, A, sl, S, Rs.sat_mono (Rs.sat_bind.mp h) fun p h H1 A1 P => ?_⟩
    by_cases z : p.1 = true
    · rw [if_pos z] at h ⊢
      exact ⟨Fo, A1, p.2, P.sr, Rs.sat_mono h fun q k => k.and P⟩
    · rw [if_neg z] at h ⊢
      exact ⟨Fo, A1, p.2, P.sr, Rs.sat_mono h fun q k => k.and P⟩
end
end Pf

/-! Pf8: tuples, lists, items, slices, fields, calls, built-in functions, methods of lists -/
namespace Pf
open PySem L2
section
variable {G : Gx} {T : Tab} {cf : CF} {Fo : Fx} {A A1 A2 A' : Nat → List Addr} {H H1 H2 H' Hs Hs' : Hp} {σ : L2.St} {sl sl1 sl2 sl' : Sls} {B B1 B2 B' : List Addr} {v : V} {r : Rv} {vs : List V} {rs : List Rv}
variable {X : Cx} {a b c e o : Expr} {es : List Expr} {pa pb pc : PE} {ps : PEs} {pos p apos : Pos}
/-! ### arguments -/
theorem ra_nil : RA G T cf X [] .nil := PA.imp pa_nil fun σ H Q h => by
  obtain ⟨Fo, A, sl, S, h⟩ := h
  unfold evEs at h
  exact (show KA G Fo A H σ Q ([], sl) from h) H A [] [] (Post.refl S) ⟨rfl, rfl⟩
theorem RvRs.later (b : Post G (U Fo B) A1 H1 B2 A2 H2 σ sl2) (h : RvRs G (vis H1 (U Fo B) A1) H1 σ B vs rs) : RvRs G (vis H2 (U (U Fo B) B2) A2) H2 σ B vs rs := RvRs.mono b.ext (fun x hx => b.fo x (.inr hx)) h
theorem ra_cons (ha : RE G T cf X e pa) (hr : RA G T cf X es ps) (hs : starEach (e :: es) X.env = (false, eval e X.env) :: starEach es X.env := by rfl) : RA G T cf X (e :: es) (.cons pa ps) :=
  PA.imp (pa_cons ha hr hs) fun σ H Q h => by
    obtain ⟨Fo, A, sl, S, h⟩ := h
    unfold evEs at h
    refine ⟨Fo, A, sl, S, Rs.sat_mono (Rs.sat_bind.mp h) fun p h H1 A1 B1 x P1 R1 => ⟨U Fo B1, A1, p.2, P1.st, Rs.sat_mono (Rs.sat_bind.mp h) fun q h H2 A2 B2 xs P2 R2 => ?_⟩⟩
    have R1' := R1.later P2
    rw [U_app] at R1' R2
    exact (show KA G Fo A H σ Q (p.1 :: q.1, q.2) from h) H2 A2 (B1 ++ B2) (x :: xs) (P1.trans P2) ⟨B1, B2, x, xs, rfl, rfl, R1', R2⟩
theorem settle_go {Q : List D × Sls → Prop} (P : Post G Fo A H B A1 H1 σ sl1) (R : RvRs G (vis H1 (U Fo B) A1) H1 σ B vs rs) (h : (settleR sl1 rs).sat Q) :
    ∃ ds sl2 A2, Post G Fo A H [] A2 H1 σ sl2 ∧ SR G Fo H1 σ sl2 A2 ∧ Reps G (vis H1 Fo A2) vs ds ∧ Q (ds, sl2) := by
  cases e : settleR sl1 rs with
  | stuck => rw [e] at h; exact h.elim
  | ok z =>
    rw [e] at h
    obtain ⟨A2, S2, ev, rp, _, _⟩ := R.settles P.st P.nd P.out e
    exact ⟨z.1, z.2, A2, P.settled S2 ev, S2, rp, h⟩
theorem re_tup {x1} (h : RA G T cf X es ps) : RE G T cf X (.Tuple es x1 pos) (.tup ps) := PE.imp (pe_tup h) fun σ H Q h => by
  obtain ⟨Fo, A, sl, S, h⟩ := h
  unfold evE at h
  refine ⟨Fo, A, sl, S, Rs.sat_mono (Rs.sat_bind.mp h) fun p h H1 A1 B xs P R => ?_⟩
  obtain ⟨ds, sl2, A2, P2, S2, rp, h⟩ := settle_go P R (Rs.sat_bind.mp h)
  obtain ⟨z, h⟩ := if_sat h
  refine ⟨by rw [rp.len]; exact z, fun q hq => ?_⟩
  obtain ⟨P3, R3⟩ := out_tup S2 hq rp
  exact KE.kt (sl1 := sl2) h P2 _ _ _ P3 R3
theorem re_lst (h : RA G T cf X es ps) : RE G T cf X (.List es pos) (.lst ps) := PE.imp (pe_lst h) fun σ H Q h => by
  obtain ⟨Fo, A, sl, S, h⟩ := h
  unfold evE at h
  refine ⟨Fo, A, sl, S, Rs.sat_mono (Rs.sat_bind.mp h) fun p h H1 A1 B xs P R => ?_⟩
  obtain ⟨ds, sl2, A2, P2, S2, rp, h⟩ := settle_go P R (Rs.sat_bind.mp h)
  obtain ⟨z, h⟩ := if_sat h
  refine ⟨by rw [rp.len]; exact z, fun q hq => ?_⟩
  obtain ⟨P3, R3⟩ := out_lst S2 hq rp
  exact KE.kt (sl1 := sl2) h P2 _ _ _ P3 R3
/-! ### items, slices -/
theorem re_ix (ha : RE G T cf X a pa) (hb : RE G T cf X b pb) (hs : PlainIx b := by intro _ _; rfl) (hK : G.K = X.K := by rfl) : RE G T cf X (.Subscript a b pos) (.ix pa pb) :=
  PE.imp (pe_ix (by have := ixr (X := X); rw [← hK] at this; exact this) ha hb hs) fun σ H Q h => by
    obtain ⟨Fo, A, sl, S, h⟩ := h
    unfold evE at h
    exact go2v (m := fun x y sl => (ixD x y).bind fun d => Rs.ok ((Rv.va d, sl) : Rv × Sls)) S h fun d1 d2 sl' H1 A1 x y P S' r1 r2 h => ix_go S' r1 r2 (Rs.sat_mono (Rs.sat_bind.mp h) fun d k => KE.kt k P)
variable (G T cf) in
def tO (po : POpt) : TO := fun σ H Q => ∃ Fo A sl, SR G Fo H σ sl A ∧ (evO T cf po sl).sat fun q => ∀ H' A', Post G Fo A H [] A' H' σ q.2 → Q q.1 H'
theorem ro_none : L2.PO X none (tO G T cf .none) := ⟨fun pins s σ H Q I h => po_none.run pins s σ H Q I (by
  obtain ⟨Fo, A, sl, S, h⟩ := h
  unfold evO at h
  exact (show ∀ H' A', Post G Fo A H [] A' H' σ sl → Q none H' from h) H A (Post.refl S))⟩
theorem ro_some (he : RE G T cf X e pa) : L2.PO X (some e) (tO G T cf (.some pa)) := ⟨fun pins s σ H Q I h => (po_some he).run pins s σ H Q I (by
  obtain ⟨Fo, A, sl, S, h⟩ := h
  unfold evO at h
  refine ⟨Fo, A, sl, S, Rs.sat_mono (Rs.sat_bind.mp h) fun p h H1 A1 B x P R => ?_⟩
  obtain ⟨d, e, h⟩ := Rs.of_sat (Rs.sat_bind.mp h)
  have rv := R.view P.st e
  cases d with
  | int i => exact ⟨i, rv, (show ∀ H' A', Post G Fo A H [] A' H' σ p.2 → Q (some i) H' from h) H1 A1 P.opn.1⟩
  | _ => exact h.elim)⟩
theorem re_sl {lo hi : Option Expr} {pl ph : POpt} {p2 : Pos} (ha : RE G T cf X a pa) (hl : L2.PO X lo (tO G T cf pl)) (hh : L2.PO X hi (tO G T cf ph)) (hK : G.K = X.K := by rfl) : RE G T cf X (.Subscript a (.Slice lo hi none p2) pos) (.sl pa pl ph) :=
  PE.imp (pe_slice (by have := slr (X := X); rw [← hK] at this; exact this) ha hl hh) fun σ H Q h => by
    obtain ⟨Fo, A, sl, S, h⟩ := h
    unfold evE at h
    refine ⟨Fo, A, sl, S, Rs.sat_mono (Rs.sat_bind.mp h) fun p h H1 A1 B1 x P1 R1 => ⟨U Fo B1, A1, p.2, P1.st, Rs.sat_mono (Rs.sat_bind.mp h) fun l h H2 A2 P2 => ⟨U Fo B1, A2, l.2, P2.sr, Rs.sat_mono (Rs.sat_bind.mp h) fun u h H3 A3 P3 => ?_⟩⟩⟩
    have P23 := P2.and P3
    have R1' := R1.later P23
    rw [U_nil] at R1'
    have P := P1.trans P23
    rw [List.append_nil] at P
    obtain ⟨d, e, h⟩ := Rs.of_sat (Rs.sat_bind.mp h)
    obtain ⟨P', S', ev⟩ := P.opn
    exact sl_go S' ((R1'.view P.st e).mono ev) (Rs.sat_mono (Rs.sat_bind.mp h) fun d k => KE.kt k P')
/-! ### fields, calls -/
theorem names_none {α β : Type} : ∀ {fs : List (Nat × α)} {gs : List (Str × β)} {m : Nat}, gs.map (·.1) = fs.map (fun p => G.FN p.1) → fs.lookup m = none → gs.lookup (G.FN m) = none
  | [], [], _, _, _ => rfl
  | [], _ :: _, _, e, _ => by simp at e
  | _ :: _, [], _, e, _ => by simp at e
  | (f, x) :: fs, (g, y) :: gs, m, e, h => by
    simp only [List.map_cons, List.cons.injEq] at e
    have e1 : g = G.FN f := e.1
    subst e1
    by_cases q : m = f
    · subst q; simp at h
    · have q1 : (m == f) = false := by simpa using q
      have q2 : (G.FN m == G.FN f) = false := by
        have : G.FN m ≠ G.FN f := fun z => q (G.fi _ _ z)
        simpa using this
      rw [List.lookup_cons, q1] at h
      rw [List.lookup_cons, q2]
      exact names_none e.2 h
theorem cls_go {ci m : Nat} {P : Unit → Prop} (S : SR G Fo H σ sl A) (R : RvR G (vis H Fo A) H σ B v r) (h : (clsOf sl ci m r).sat P) : ∃ a dx fs, v = .ref a ∧ H a = some (.ins (G.CA ci) dx fs) ∧ fs.lookup (G.FN m) = none ∧ P () := by
  cases r with
  | pr _ _ => exact h.elim
  | fr p => exact h.elim
  | va d =>
    cases d <;> first | exact (show False from h).elim | skip
    rename_i c' fs
    obtain ⟨⟨z1, z2⟩, h2⟩ := if_sat h
    clear h
    subst z1
    obtain ⟨_, a, dx, gs, e1, e2, e3⟩ := R
    exact ⟨a, dx, gs, e1, hide_sub _ _ e2, names_none e3.names z2, h2⟩
  | s i =>
    unfold clsOf at h
    cases e : sl[i]? with
    | none => simp only [e] at h; exact h.elim
    | some x =>
      simp only [e] at h
      cases x <;> first | exact (show False from h).elim | skip
      rename_i b p
      cases p <;> first | exact (show False from h).elim | skip
      rename_i c' fs
      obtain ⟨⟨z1, z2⟩, h2⟩ := if_sat h
      clear h
      subst z1
      obtain ⟨a, w1, dx, gs, B', w2, w3, w4⟩ := S.ow i b _ e
      have w5 := R.2
      rw [w1] at w5
      have w5 : v = .ref a := by injection w5 with w5; injection w5 with w5; exact w5.symm
      exact ⟨a, dx, gs, w5, w3, names_none w4.names z2, h2⟩
theorem fld_go {ci f : Nat} {P : Rv → Prop} (S : SR G Fo H σ sl A) (R : RvR G (vis H Fo A) H σ B v r) (h : (fldD sl ci f r).sat P) :
    ∃ a dx fs u d, v = .ref a ∧ H a = some (.ins (G.CA ci) dx fs) ∧ fs.lookup (G.FN f) = some u ∧ Rep G (vis H Fo A) u d ∧ P (.va d) := by
  cases r with
  | pr _ _ => exact h.elim
  | fr p => exact h.elim
  | va d =>
    cases d <;> first | exact (show False from h).elim | skip
    rename_i c' fs
    obtain ⟨z1, h2⟩ := if_satR h
    clear h
    subst z1
    obtain ⟨d, z2, h⟩ := Rs.of_sat (Rs.sat_bind.mp h2)
    obtain ⟨_, a, dx, gs, e1, e2, e3⟩ := R
    obtain ⟨u, w1, w2⟩ := e3.look z2
    exact ⟨a, dx, gs, u, d, e1, hide_sub _ _ e2, w1, w2, h⟩
  | s i =>
    unfold fldD at h
    cases e : sl[i]? with
    | none => simp only [e] at h; exact h.elim
    | some x =>
      simp only [e] at h
      cases x <;> first | exact (show False from h).elim | skip
      rename_i b p
      cases p <;> first | exact (show False from h).elim | skip
      rename_i c' fs
      obtain ⟨z1, h2⟩ := if_satR h
      clear h
      subst z1
      obtain ⟨d, z2, h⟩ := Rs.of_sat (Rs.sat_bind.mp h2)
      cases d with
      | ol _ => exact h.elim
      | fz d =>
        obtain ⟨a, w1, dx, gs, B', w2, w3, w4⟩ := S.ow i b _ e
        have w5 := R.2
        rw [w1] at w5
        have w5 : v = .ref a := by injection w5 with w5; injection w5 with w5; exact w5.symm
        obtain ⟨u, x1, x2⟩ := w4.look z2
        exact ⟨a, dx, gs, u, d, w5, w3, x1, x2, h⟩
theorem re_fld {ci f : Nat} {fn : Str} (he : RE G T cf X e pa) (hc : Cls X.K (G.CA ci)) (hn : NoAttr X.K (G.CA ci) fn) (hf : G.FN f = fn) (hb : attributeBase e fn X.env (eval e X.env) = eval e X.env := by rfl) : RE G T cf X (.Attribute e fn pos) (.fld pa ci f) :=
  PE.imp (pe_fld he hb) fun σ H Q h => by
    obtain ⟨Fo, A, sl, S, h⟩ := h
    unfold evE at h
    refine ⟨Fo, A, sl, S, Rs.sat_mono (Rs.sat_bind.mp h) fun p h H1 A1 B x P R => ?_⟩
    obtain ⟨a, dx, fs, u, d, e1, e2, e3, e4, h⟩ := fld_go P.st R (Rs.sat_bind.mp h)
    obtain ⟨P', S', ev⟩ := P.opn
    rw [hf] at e3
    exact ⟨a, _, dx, fs, u, e1, e2, hc, hn, e3, KE.va (sl1 := p.2) h P' (e4.mono ev)⟩
section
variable {k : Nat} {fa : Addr} {fd : FuncData} {xs : List Str} {x m : Str} {f : Nat}
theorem KE.call {Q : VK} (P : Post G Fo A H B A1 H1 σ sl1) {q : Rv × Sls} (k : KE G Fo A H σ Q q) : Kn G Fo B A1 H1 σ Q q := fun H2 A2 B2 v st rv => k H2 A2 B2 v (P.step st) rv
theorem call_i {Q : VK} (h : tE G T cf (.call f ps) σ H Q) : tCall (spI G cf (ioOf T f) f) [] E0 (tAs G T cf ps) σ H Q := by
  obtain ⟨Fo, A, sl, S, h⟩ := h
  unfold evE at h
  refine ⟨Fo, A, sl, S, Rs.sat_mono (Rs.sat_bind.mp h) fun p h H1 A1 B vs P R => ?_⟩
  show spI G cf (ioOf T f) f (vs ++ []) H1 Q E0
  rw [List.append_nil]
  exact call_go P.st P.nd P.out R (Rs.sat_mono h fun q k => k.call P)
theorem re_call (F : FnOk X.prog X.w X.K X.mg X.base CX0 k fa fd xs (spI G cf (ioOf T f) f)) (hr : Room k X.A) (hg : Gl X x) (hm : X.mg x = some (.ref fa)) (hk : PySem.W.keepIn X.K (.ref fa) = true) (hb : Binds X.K fd xs [])
    (ha : RA G T cf X (e :: es) ps) (hdb : (x == ("__debug__" : Str)) = false := by decide) (he : starEach (e :: es) X.env = (false, eval e X.env) :: starEach es X.env := by rfl) (hpl : (backTo pos (starEach es X.env)).any (·.1) = false := by rfl) :
    RE G T cf X (.Call (.Name x p) (e :: es) [] pos) (.call f ps) := PE.imp (pe_call F hr hg hm hk hb .nil pass0 ha hdb he hpl) fun _ _ _ => call_i
theorem make_i {ci : Nat} {Q : VK} (h : tE G T cf (.make ci f ps) σ H Q) : tMake (G.CA ci) (spI G cf (ioOf T f) f) [] E0 (tAs G T cf ps) σ H Q := by
  obtain ⟨Fo, A, sl, S, h⟩ := h
  unfold evE at h
  refine ⟨Fo, A, sl, S, Rs.sat_mono (Rs.sat_bind.mp h) fun p h H1 A1 B vs P R x dx hx hdx hne => ?_⟩
  show spI G cf (ioOf T f) f (.ref x :: (vs ++ [])) _ _ E0
  rw [List.append_nil]
  exact make_go P.st P.nd P.out R (Rs.sat_mono h fun q k => k.call P) hx hdx hne
theorem re_make {ci : Nat} (M : Mk X.K (G.CA ci) fa) (F : FnOk X.prog X.w X.K X.mg X.base CX0 k fa fd xs (spI G cf (ioOf T f) f)) (hr : Room (k + 1) X.A) (hg : Gl X x) (hm : X.mg x = some (.ref (G.CA ci))) (hb : Binds X.K fd xs [])
    (ha : RA G T cf X (e :: es) ps) (hdb : (x == ("__debug__" : Str)) = false := by decide) (he : starEach (e :: es) X.env = (false, eval e X.env) :: starEach es X.env := by rfl) (hpl : (backTo pos (starEach es X.env)).any (·.1) = false := by rfl) :
    RE G T cf X (.Call (.Name x p) (e :: es) [] pos) (.make ci f ps) := PE.imp (pe_make M F hr hg hm hb .nil pass0 ha hdb he hpl) fun _ _ _ => make_i
theorem meth_i {ci mi : Nat} (hf : G.FN mi = m) {Q : VK} (h : tE G T cf (.meth pa ci mi f ps) σ H Q) : tMeth (G.CA ci) m (spI G cf (ioOf T f) f) [] E0 (tE G T cf pa) (tAs G T cf ps) σ H Q := by
  obtain ⟨Fo, A, sl, S, h⟩ := h
  unfold evE at h
  refine ⟨Fo, A, sl, S, Rs.sat_mono (Rs.sat_bind.mp h) fun o h H1 A1 B1 x P1 R1 => ?_⟩
  obtain ⟨a, dx, fs, e1, e2, e3, h⟩ := cls_go P1.st R1 (Rs.sat_bind.mp h)
  rw [hf] at e3
  refine ⟨a, dx, fs, e1, e2, e3, U Fo B1, A1, o.2, P1.st, Rs.sat_mono (Rs.sat_bind.mp h) fun p h H2 A2 B2 vs P2 R2 => ?_⟩
  have R1' := R1.later P2
  rw [U_app] at R1' R2
  show spI G cf (ioOf T f) f (x :: (vs ++ [])) H2 Q E0
  rw [List.append_nil]
  have P := P1.trans P2
  exact call_go (vs := x :: vs) (rs := o.1 :: p.1) P.st P.nd P.out ⟨B1, B2, x, vs, rfl, rfl, R1', R2⟩ (Rs.sat_mono h fun q k => k.call P)
theorem re_meth {ci mi : Nat} {pl : Sem Bool} (hf : G.FN mi = m) (ho : RE G T cf X o pa) (hc : Cls X.K (G.CA ci)) (hm : Meth X.K (G.CA ci) m fa) (F : FnOk X.prog X.w X.K X.mg X.base CX0 k fa fd xs (spI G cf (ioOf T f) f)) (hr : Room k X.A) (hb : Binds X.K fd xs [])
    (ha : RA G T cf X (e :: es) ps) (hst : starEach (e :: es) X.env = (false, eval e X.env) :: starEach es X.env := by rfl) (hpl : (backTo pos (starEach es X.env)).any (·.1) = false := by rfl)
    (ht : eval (.Call (.Attribute o m apos) (e :: es) [] pos) X.env = (do
      let ov ← eval o X.env
      standAt apos.atName
      let (f, first) ← holding [ov] (getMethod ov m pl)
      callWith pos f first (backTo pos (starEach (e :: es) X.env)) (backToKw pos (keywordEach [] X.env))) := by rfl) : RE G T cf X (.Call (.Attribute o m apos) (e :: es) [] pos) (.meth pa ci mi f ps) :=
  PE.imp (pe_meth ho hc hm F hr hb .nil pass0 ha hst hpl ht) fun _ _ _ => meth_i hf
theorem re_meth0 {ci mi : Nat} {pl : Sem Bool} (hf : G.FN mi = m) (ho : RE G T cf X o pa) (hc : Cls X.K (G.CA ci)) (hm : Meth X.K (G.CA ci) m fa) (F : FnOk X.prog X.w X.K X.mg X.base CX0 k fa fd xs (spI G cf (ioOf T f) f)) (hr : Room k X.A) (hb : Binds X.K fd xs [])
    (ht : eval (.Call (.Attribute o m apos) [] [] pos) X.env = (do
      let ov ← eval o X.env
      standAt apos.atName
      let (f, first) ← holding [ov] (getMethod ov m pl)
      callWith pos f first (backTo pos (starEach [] X.env)) (backToKw pos (keywordEach [] X.env))) := by rfl) : RE G T cf X (.Call (.Attribute o m apos) [] [] pos) (.meth pa ci mi f .nil) :=
  PE.imp (pe_meth0 ho hc hm F hr hb .nil pass0 ht) fun σ H Q h => by
    have h := meth_i hf h
    obtain ⟨Fo, A, sl, S, h⟩ := h
    refine ⟨Fo, A, sl, S, Rs.sat_mono h fun o h H1 A1 B1 x P1 R1 => ?_⟩
    obtain ⟨a, dx, fs, e1, e2, e3, Fo', A', sl', S', h⟩ := h H1 A1 B1 x P1 R1
    refine ⟨a, dx, fs, e1, e2, e3, ?_⟩
    unfold evEs at h
    exact (show KA G Fo' A' H1 σ _ ([], sl') from h) H1 A' [] [] (Post.refl S') ⟨rfl, rfl⟩
end
/-! ### built-in functions -/
theorem bi_i {bf : Bi} (hb : bf.plain = true) {Q : VK} (h : tE G T cf (.bi bf ps) σ H Q) : tCB (rBi G.K bf) (tAs G T cf ps) σ H Q := by
  obtain ⟨Fo, A, sl, S, h⟩ := h
  unfold evE at h
  refine ⟨Fo, A, sl, S, Rs.sat_mono (Rs.sat_bind.mp h) fun p h H1 A1 B vs P R => ?_⟩
  have h := Rs.sat_bind.mp h
  cases ev : viewR p.2 p.1 with
  | stuck => rw [ev] at h; exact h.elim
  | ok ds =>
    rw [ev] at h
    obtain ⟨P', S', e⟩ := P.opn
    exact bi_go S' hb ((R.views P.st ev).mono e) (Rs.sat_mono (Rs.sat_bind.mp h) fun r k => KE.kt k P')
theorem re_biB (bf : Bi) {id : String} (hfn : bf.fn = .builtin id) (hb : bf.plain = true) (hg : Gl X bf.nm) (hm : X.mg bf.nm = none) (hc : X.calm = true) (ha : RA G T cf X (e :: es) ps) (hv : bootBuiltins bf.nm = some (.builtin id)) (hn : bf.nm ≠ "__name__" := by decide) (hdb : (bf.nm == ("__debug__" : Str)) = false := by decide)
    (he : starEach (e :: es) X.env = (false, eval e X.env) :: starEach es X.env := by rfl) (hpl : (backTo pos (starEach es X.env)).any (·.1) = false := by rfl) (hK : G.K = X.K := by rfl) : RE G T cf X (.Call (.Name bf.nm p) (e :: es) [] pos) (.bi bf ps) :=
  PE.imp (pe_callB (by have := crBi hc bf; rw [hfn, ← hK] at this; exact this) hg hm hv ha hn hdb he hpl) fun _ _ _ => bi_i hb
theorem re_biT (bf : Bi) {id : String} (hfn : bf.fn = .type id) (hb : bf.plain = true) (hg : Gl X bf.nm) (hm : X.mg bf.nm = none) (hc : X.calm = true) (ha : RA G T cf X (e :: es) ps) (hv : bootBuiltins bf.nm = some (.type id)) (hn : bf.nm ≠ "__name__" := by decide) (hdb : (bf.nm == ("__debug__" : Str)) = false := by decide)
    (he : starEach (e :: es) X.env = (false, eval e X.env) :: starEach es X.env := by rfl) (hpl : (backTo pos (starEach es X.env)).any (·.1) = false := by rfl) (hK : G.K = X.K := by rfl) : RE G T cf X (.Call (.Name bf.nm p) (e :: es) [] pos) (.bi bf ps) :=
  PE.imp (pe_callTy (by have := crBi hc bf; rw [hfn, ← hK] at this; exact this) hg hm hv ha hn hdb he hpl) fun _ _ _ => bi_i hb
theorem bi1 {bf : Bi} {m : D → Sls → Rs (Rv × Sls)} {Q : VK} {Q2 : V → Hp → Prop} (h : tE G T cf (.bi bf (.cons pa .nil)) σ H Q)
    (k : ∀ Fo A d sl' H1 A1 x, Post G Fo A H [] A1 H1 σ sl' → SR G Fo H1 σ sl' A1 → RepV G (vis H1 Fo A1) H1 x d → (biD bf [d]).sat (Kt G Fo A1 H1 σ sl' Q) → Q2 x H1) : tE G T cf pa σ H Q2 := by
  obtain ⟨Fo, A, sl, S, h⟩ := h
  unfold evE evEs evEs at h
  refine ⟨Fo, A, sl, S, Rs.sat_mono (Rs.sat_bind.mp (Rs.sat_bind.mp h)) fun p h H1 A1 B x P R => ?_⟩
  have h : ((viewR p.2 [p.1]).bind fun ds => (biD bf ds).bind fun r => Rs.ok ((r, p.2) : Rv × Sls)).sat (KE G Fo A H σ Q) := h
  have h := Rs.sat_bind.mp h
  cases ev : view p.2 p.1 with
  | none => simp only [viewR, ev] at h; exact h.elim
  | some d =>
    simp only [viewR, ev] at h
    obtain ⟨P', S', e⟩ := P.opn
    exact k Fo A d p.2 H1 A1 x P' S' ((R.view P.st ev).mono e) (Rs.sat_mono (Rs.sat_bind.mp (show Rs.sat (Rs.bind (biD bf [d]) _) _ from h)) fun r k => KE.kt k P')
theorem re_isi (bf : Bi) {t : String} {tn : Str} {p2 : Pos} (hb : bf.ty = some t) (hg : Gl X "isinstance") (hm : X.mg "isinstance" = none) (hv : bootBuiltins "isinstance" = some (.builtin "isinstance")) (hg2 : Gl X tn) (hm2 : X.mg tn = none) (hv2 : bootBuiltins tn = some (.type t)) (ha : RE G T cf X e pa)
    (hn2 : tn ≠ "__name__" := by decide) (hdb2 : (tn == ("__debug__" : Str)) = false := by decide) (hs : starEach [e, .Name tn p2] X.env = (false, eval e X.env) :: starEach [.Name tn p2] X.env := by rfl) (hs2 : starEach [.Name tn p2] X.env = (false, eval (.Name tn p2) X.env) :: starEach [] X.env := by rfl)
    (hpl : (backTo pos (starEach [.Name tn p2] X.env)).any (·.1) = false := by rfl) (hK : G.K = X.K := by rfl) : RE G T cf X (.Call (.Name "isinstance" p) [e, .Name tn p2] [] pos) (.bi bf (.cons pa .nil)) :=
  PE.imp (pe_callB (r := rIsi G.K) (by rw [hK]; exact call_isi) hg hm hv (pa_cons ha (pa_cons (pe_bltn (v := .ty t) hg2 hm2 hv2 rfl hn2 hdb2) pa_nil hs2) hs) (by decide) (by decide) hs hpl) fun σ H Q h =>
    bi1 (m := fun _ _ => .stuck) h fun Fo A d sl' H1 A1 x P S' r h => isi_go hb r S' h
theorem re_listRange {p2 pos2 : Pos} (hc : X.calm = true) (hg : Gl X "list") (hm : X.mg "list" = none) (hg2 : Gl X "range") (hm2 : X.mg "range" = none) (ha : RE G T cf X e pa) (na : starEach [e] X.env = (false, eval e X.env) :: starEach [] X.env := by rfl)
    (na2 : starEach [.Call (.Name "range" p2) [e] [] pos2] X.env = (false, eval (.Call (.Name "range" p2) [e] [] pos2) X.env) :: starEach [] X.env := by rfl) : RE G T cf X (.Call (.Name "list" p) [.Call (.Name "range" p2) [e] [] pos2] [] pos) (.bi .listRange (.cons pa .nil)) :=
  PE.imp (pe_listRg hc hg hm (prg_1 hg2 hm2 ha na) na2) fun σ H Q h => bi1 (m := fun _ _ => .stuck) h fun Fo A d sl' H1 A1 x P S' r h => by
    cases d <;> first | exact (show False from h).elim | skip
    rename_i n
    obtain ⟨z, h⟩ := if_sat h
    refine ⟨n, r, ⟨by omega, by omega, by omega, by omega, by omega⟩, fun q hq => ?_⟩
    have e : Reps G (vis H1 Fo A1) (rgV 0 n) (rangeD 0 n) := by
      unfold rgV rangeD
      have := reps_int (G := G) (H := vis H1 Fo A1) ((List.range (n - 0).toNat).map fun i => (0 : Int) + (i : Nat))
      rw [List.map_map, List.map_map] at this
      exact this
    obtain ⟨P3, R3⟩ := out_lst S' hq e
    exact h _ _ _ P3 R3
theorem re_listRev {p2 pos2 : Pos} (hc : X.calm = true) (hg : Gl X "list") (hm : X.mg "list" = none) (hg2 : Gl X "reversed") (hm2 : X.mg "reversed" = none) (ha : RE G T cf X e pa) (na : starEach [e] X.env = (false, eval e X.env) :: starEach [] X.env := by rfl)
    (na2 : starEach [.Call (.Name "reversed" p2) [e] [] pos2] X.env = (false, eval (.Call (.Name "reversed" p2) [e] [] pos2) X.env) :: starEach [] X.env := by rfl) (hK : G.K = X.K := by rfl) : RE G T cf X (.Call (.Name "list" p) [.Call (.Name "reversed" p2) [e] [] pos2] [] pos) (.bi .listRev (.cons pa .nil)) :=
  PE.imp (pe_lstRev hc hg hm hg2 hm2 ha na na2) fun σ H Q h => bi1 (m := fun _ _ => .stuck) h fun Fo A d sl' H1 A1 x P S' r h => by
    cases d <;> first | exact (show False from h).elim | skip
    rename_i xs
    obtain ⟨a, vs, e1, e2, e3⟩ := r
    refine ⟨a, vs, e1, by rw [← hK]; exact SqL.of e2, fun q hq => ?_⟩
    obtain ⟨P3, R3⟩ := out_lst S' hq e3.rev
    exact (show Kt G Fo A1 H1 σ sl' Q (.fr (.lst xs.reverse)) from h) _ _ _ P3 R3
/-! ### methods of lists -/
theorem lst_go {d : D} {P : Unit → Prop} (h : (lstD d).sat P) : ∃ ds, d = .lst ds ∧ P () := by
  cases d <;> first | exact (show False from h).elim | skip
  exact ⟨_, rfl, h⟩
theorem bm_i {mi : Bm} {Q : VK} (h : tE G T cf (.bm mi pa ps) σ H Q) : tBM G.K "list" (rBm G.K mi) (tE G T cf pa) (tAs G T cf ps) σ H Q := by
  obtain ⟨Fo, A, sl, S, h⟩ := h
  unfold evE at h
  refine ⟨Fo, A, sl, S, Rs.sat_mono (Rs.sat_bind.mp h) fun o h H1 A1 B1 x P1 R1 => ?_⟩
  obtain ⟨d0, e0, h⟩ := Rs.of_sat (Rs.sat_bind.mp h)
  obtain ⟨ds0, q0, h⟩ := lst_go (Rs.sat_bind.mp h)
  subst q0
  refine ⟨tyBm (R1.view P1.st e0), U Fo B1, A1, o.2, P1.st, Rs.sat_mono (Rs.sat_bind.mp h) fun p h H2 A2 B2 vs P2 R2 => ?_⟩
  have R1' := R1.later P2
  rw [U_app] at R1' R2
  have P := P1.trans P2
  by_cases z : mi.looks = true
  · rw [if_pos z] at h
    obtain ⟨d, e, h⟩ := Rs.of_sat (Rs.sat_bind.mp h)
    have h := Rs.sat_bind.mp h
    cases ev : viewR p.2 p.1 with
    | stuck => rw [ev] at h; exact h.elim
    | ok ds =>
      rw [ev] at h
      obtain ⟨P', S', ex⟩ := P.opn
      have R2'' : RvRs G (vis H2 (U Fo (B1 ++ B2)) A2) H2 σ B2 vs p.1 := R2
      exact (bl_go S' ((R1'.view P.st e).mono ex) ((RvRs.views P.st R2'' ev).mono ex) (Rs.sat_mono (Rs.sat_bind.mp (show Rs.sat (Rs.bind (blD mi d ds) _) _ from h)) fun r k => KE.kt k P')).2
  · rw [if_neg z] at h
    have h := Rs.sat_bind.mp h
    cases es : settleR p.2 p.1 with
    | stuck => rw [es] at h; exact h.elim
    | ok q =>
      rw [es] at h
      obtain ⟨xs, e, h⟩ := Rs.of_sat (Rs.sat_bind.mp (show Rs.sat (Rs.bind (Rs.of (ownL q.2 o.1)) _) _ from h))
      cases o with
      | mk o1 o2 =>
      cases o1 with
      | va _ => cases e
      | fr _ => cases e
      | pr _ _ => cases e
      | s i =>
        obtain ⟨eB1, eσ⟩ := R1'
        subst eB1
        have P : Post G Fo A H B2 A2 H2 σ p.2 := P
        have R2 : RvRs G (vis H2 (U Fo B2) A2) H2 σ B2 vs p.1 := R2
        obtain ⟨A3, S3, ev, rp, _, _⟩ := R2.settles P.st P.nd P.out es
        have P3 := P.settled S3 ev
        simp only [ownL] at e
        cases ei : q.2[i]? with
        | none => rw [ei] at e; cases e
        | some y =>
          rw [ei] at e
          cases y <;> first | (cases e; done) | skip
          rename_i b pp
          cases pp <;> first | (cases e; done) | skip
          cases e
          obtain ⟨a, w1, w2⟩ := S3.ow i b _ ei
          rw [eσ] at w1
          have w1 : x = .ref a := by injection w1 with w1; injection w1
          subst w1
          refine bm_go S3 ei eσ rp (Rs.sat_mono (Rs.sat_bind.mp h) fun r k H4 A4 v S4 ev4 fo4 rv => ?_)
          have k : KE G Fo A H σ Q (.va r.1, setL q.2 r.2 (.s i)) := k
          have es : setL q.2 r.2 (.s i) = q.2.set i (.ow b (.lst r.2)) := by simp only [setL, ei]
          rw [es] at k
          exact KE.va k ⟨by rw [U_nil]; exact S4, List.nodup_nil, (fun _ h => absurd h List.not_mem_nil), by rw [U_nil]; have := P3.ext; rw [U_nil] at this; exact this.trans ev4, fun y hy => (fo4 y hy).trans (P3.fo y hy)⟩ rv
theorem re_bm (mi : Bm) (slot : PySem.Slot "list" mi.nm mi.id) (hty : typeOf (.builtin mi.id) = pure (.type "method_descriptor")) (hu : X.A.units + 64 < cLine) (ho : RE G T cf X o pa) (ha : RA G T cf X (e :: es) ps)
    (hbase : attributeBase o mi.nm X.env (eval o X.env) = eval o X.env := by rfl)
    (hfew : ((backTo pos (starEach (e :: es) X.env)).all (fun x => !x.1) && (backToKw pos (keywordEach [] X.env)).all (fun x => x.1.isSome)
      && decide ((e :: es).length + ([] : List Keyword).length + (if ([] : List Keyword).isEmpty then 0 else 1) < 30)) = true := by rfl)
    (hline : (apos.endLine == pos.line) = true := by rfl) (hs : starEach (e :: es) X.env = (false, eval e X.env) :: starEach es X.env := by rfl) (hplain : (backTo pos (starEach es X.env)).any (·.1) = false := by rfl) (hK : G.K = X.K := by rfl) :
    RE G T cf X (.Call (.Attribute o mi.nm apos) (e :: es) [] pos) (.bm mi pa ps) :=
  PE.imp (pe_bm PySem.F.plainAttrs_list slot hty (mtBm hu mi) ho ha hbase hfew hline hs hplain) fun σ H Q h => by rw [← hK]; exact bm_i h
end
end Pf

/-! Pf9: what is walked; targets; comprehensions -/
namespace Pf
open PySem L2
theorem PI.imp {X : Cx} {tg e : Expr} {t t' : TI} (h : L2.PI X tg e t) (k : ∀ σ H Q, t' σ H Q → t σ H Q) : L2.PI X tg e t' := ⟨fun pins s σ H Q I q => h.run pins s σ H Q I (k σ H Q q)⟩
/-- the iterator J goes through the data ds, in every heap that holds what Hs holds -/
structure Walks (G : Gx) (J : It) (ds : List D) (Hs : Hp) (Kp : Hp → Prop) : Prop where
  go : ∀ i H, Same Hs H → Kp H → i < ds.length → J.go i H
  stop : ∀ i H, Same Hs H → Kp H → ds.length ≤ i → J.stop i H
  yld : ∀ i H x H' d, Same Hs H → Kp H → J.yld i H x H' → ds[i]? = some d → Same H H' ∧ ∀ P : AS, (∀ y, P y → H y ≠ none) → Same Hs (hide H P) → Rep G (hide H' P) x d
section
variable {G : Gx} {T : Tab} {cf : CF} {Fo : Fx} {A A1 A2 A' : Nat → List Addr} {H H1 H2 H' Hs Hs' : Hp} {σ : L2.St} {sl sl1 sl2 sl' : Sls} {B B1 B2 B' : List Addr} {v : V} {r : Rv} {vs : List V} {rs : List Rv}
variable {Kp : Hp → Prop} {X : Cx} {a b c e o tg : Expr} {es : List Expr} {pa pb pc : PE} {ps : PEs} {pos p apos : Pos}
variable (G T cf) in
def tI (pi : PI) : TI := fun σ H R => ∃ Fo A sl, SR G Fo H σ sl A ∧ (evI T cf pi sl).sat fun q => ∀ J H' A', Post G Fo A H [] A' H' σ q.2 → Walks G J q.1 (vis H' Fo A') (fun H2 => ∀ x, Fo x → H2 x = H' x) → R J H'
theorem seqT {K : PySem.W.Frag} {x : Addr} {us : List V} (e : Same Hs H) (h : SqT K Hs x us) : SqT K H x us := by
  rcases h with (h | ⟨o, h⟩) | h
  · exact .inl (.inl (e _ _ h))
  · exact .inl (.inr ⟨o, e _ _ h⟩)
  · exact .inr h
theorem get_map_int {ns : List Int} {i : Nat} {d : D} (h : (ns.map D.int)[i]? = some d) : ∃ n, ns[i]? = some n ∧ d = .int n := by
  rw [List.getElem?_map] at h
  cases e : ns[i]? with
  | none => rw [e] at h; cases h
  | some n => rw [e] at h; exact ⟨n, rfl, (Option.some.inj h).symm⟩
theorem walks_list {x : Addr} {us : List V} {ds : List D} (h : SqL G.K Hs x us) (r : Reps G Hs us ds) : Walks G (Itl G.K x) ds Hs Kp := by
  refine ⟨fun i H e _ l => ?_, fun i H e _ l => ⟨us, e.seq h, by rw [r.len]; exact l⟩, fun i H y H' d e _ q z => ?_⟩
  · have l' : i < us.length := by rw [r.len]; exact l
    exact ⟨us, us[i], e.seq h, by simp [l']⟩
  · obtain ⟨q1, q2⟩ := q
    subst q1
    refine ⟨Same.refl _, fun P hP e2 => ?_⟩
    obtain ⟨w, w1, w2⟩ := r.get z
    have := q2 us (e.seq h)
    rw [w1] at this
    cases this
    exact w2.mono e2
theorem walks_tup {x : Addr} {us : List V} {ds : List D} (h : SqT G.K Hs x us) (r : Reps G Hs us ds) : Walks G (Itt G.K x) ds Hs Kp := by
  refine ⟨fun i H e _ l => ?_, fun i H e _ l => ⟨us, seqT e h, by rw [r.len]; exact l⟩, fun i H y H' d e _ q z => ?_⟩
  · have l' : i < us.length := by rw [r.len]; exact l
    exact ⟨us, us[i], seqT e h, by simp [l']⟩
  · obtain ⟨q1, q2⟩ := q
    subst q1
    refine ⟨Same.refl _, fun P hP e2 => ?_⟩
    obtain ⟨w, w1, w2⟩ := r.get z
    have := q2 us (seqT e h)
    rw [w1] at this
    cases this
    exact w2.mono e2
theorem rangeD_get {m n : Int} {i : Nat} {d : D} (h : (rangeD m n)[i]? = some d) : i < (n - m).toNat ∧ d = .int (m + (i : Nat)) := by
  unfold rangeD at h
  rw [List.getElem?_map] at h
  by_cases l : i < (n - m).toNat
  · rw [List.getElem?_range l] at h
    exact ⟨l, (Option.some.inj h).symm⟩
  · rw [List.getElem?_eq_none (by simpa using l)] at h; cases h
theorem rangeD_len (m n : Int) : (rangeD m n).length = (n - m).toNat := by simp [rangeD]
theorem walks_range {m n : Int} {k : Nat} (hk : k = (n - m).toNat) : Walks G (Itr m k) (rangeD m n) Hs Kp := by
  subst hk
  refine ⟨fun i H e _ l => by rw [rangeD_len] at l; exact l, fun i H e _ l => by rw [rangeD_len] at l; exact l, fun i H y H' d e _ q z => ?_⟩
  obtain ⟨q1, q2⟩ := q
  obtain ⟨_, z⟩ := rangeD_get z
  subst q1 q2 z
  exact ⟨Same.refl _, fun _ _ _ => rfl⟩
theorem walks_enum {x : Addr} {us : List V} {ds : List D} (h : SqL G.K Hs x us) (r : Reps G Hs us ds) : Walks G (Ite G.K x) (ds.zipIdx.map fun z => .tup [.int z.2, z.1]) Hs Kp := by
  have hl : (ds.zipIdx.map fun z => D.tup [.int z.2, z.1]).length = ds.length := by simp
  refine ⟨fun i H e _ l => ?_, fun i H e _ l => ⟨us, e.seq h, by rw [r.len]; rw [hl] at l; exact l⟩, fun i H y H' d e _ q z => ?_⟩
  · have l' : i < us.length := by rw [r.len]; rw [hl] at l; exact l
    exact ⟨us, us[i], e.seq h, by simp [l']⟩
  · obtain ⟨t, u, q1, q2, q3, q4⟩ := q
    subst q1 q3
    have k : Same H (upd H t (.tup [.int (i : Nat), u])) := same_upd q2
    refine ⟨k, fun P hP e2 => ?_⟩
    have z2 : ∃ d0, ds[i]? = some d0 ∧ d = .tup [.int (i : Nat), d0] := by
      rw [List.getElem?_map, List.getElem?_zipIdx] at z
      cases w : ds[i]? with
      | none => rw [w] at z; cases z
      | some d0 =>
        rw [w] at z
        refine ⟨d0, rfl, ?_⟩
        have := (Option.some.inj z).symm
        simpa using this
    obtain ⟨d0, z3, z4⟩ := z2
    subst z4
    obtain ⟨w, w1, w2⟩ := r.get z3
    have e0 := q4 us (e.seq h)
    rw [w1] at e0
    have e0 : w = u := Option.some.inj e0
    subst e0
    have nt : ¬ P t := fun hp => hP t hp q2
    have e3 : Same Hs (hide (upd H t (.tup [.int (i : Nat), w])) P) := e2.trans (hide_same fun b o n hb => ⟨n, k b o hb⟩)
    exact ⟨t, _, rfl, by rw [hide_no nt, upd_same], ⟨_, _, rfl, rfl, _, _, rfl, w2.mono e3, rfl⟩⟩
theorem walks_enumT {x : Addr} {us : List V} {ds : List D} (h : SqT G.K Hs x us) (r : Reps G Hs us ds) : Walks G (IteT G.K x us.length) (ds.zipIdx.map fun z => .tup [.int z.2, z.1]) Hs Kp := by
  have hl : (ds.zipIdx.map fun z => D.tup [.int z.2, z.1]).length = ds.length := by simp
  refine ⟨fun i H e _ l => ?_, fun i H e _ l => ⟨us, seqT e h, rfl, by rw [r.len]; rw [hl] at l; exact l⟩, fun i H y H' d e _ q z => ?_⟩
  · have l' : i < us.length := by rw [r.len]; rw [hl] at l; exact l
    exact ⟨us, us[i], seqT e h, rfl, by simp [l']⟩
  · obtain ⟨t, u, q1, q2, q3, q4⟩ := q
    subst q1 q3
    have k : Same H (upd H t (.tup [.int (i : Nat), u])) := same_upd q2
    refine ⟨k, fun P hP e2 => ?_⟩
    have z2 : ∃ d0, ds[i]? = some d0 ∧ d = .tup [.int (i : Nat), d0] := by
      rw [List.getElem?_map, List.getElem?_zipIdx] at z
      cases w : ds[i]? with
      | none => rw [w] at z; cases z
      | some d0 =>
        rw [w] at z
        refine ⟨d0, rfl, ?_⟩
        have := (Option.some.inj z).symm
        simpa using this
    obtain ⟨d0, z3, z4⟩ := z2
    subst z4
    obtain ⟨w, w1, w2⟩ := r.get z3
    have e0 := q4 us (seqT e h)
    rw [w1] at e0
    have e0 : w = u := Option.some.inj e0
    subst e0
    have nt : ¬ P t := fun hp => hP t hp q2
    have e3 : Same Hs (hide (upd H t (.tup [.int (i : Nat), w])) P) := e2.trans (hide_same fun b o n hb => ⟨n, k b o hb⟩)
    exact ⟨t, _, rfl, by rw [hide_no nt, upd_same], ⟨_, _, rfl, rfl, _, _, rfl, w2.mono e3, rfl⟩⟩
/-- one that walks a list or a tuple -/
def iSeq (K : PySem.W.Frag) (tl : TE) : TI := fun σ H R => tl σ H fun x H1 => ∃ a, x = .ref a ∧ (((∃ xs, SqL K H1 a xs) ∧ R (Itl K a) H1) ∨ ((∃ xs, SqT K H1 a xs) ∧ R (Itt K a) H1))
theorem pi_seq {l : Expr} {tl : TE} (hl : L2.PE X l tl) : L2.PI X tg l (iSeq X.K tl) := by
  refine ⟨fun pins s σ H R I h => ?_⟩
  refine thn (hl.run pins s σ H _ I h) fun v s1 ⟨x, H1, I1, r1, q1⟩ => ?_
  obtain ⟨a, e, ⟨⟨xs, hq⟩, q⟩ | ⟨⟨xs, hq⟩, q⟩⟩ := q1
  · subst e
    cases r1
    obtain ⟨its, rv, p, hz⟩ := I1.list hq
    refine wpAny_pyIter_list p.isList ?_
    refine ⟨s1.heap.objs.size, [s1.heap.objs.size], _, _, H1, rfl, I1.kept (t' := s1.toks) fun b o e => Heap.get?_push_of_some _ e, turn_list a _, ⟨_, Heap.get?_push_size _ rfl, rfl, rfl⟩, fun b hb => ?_, q⟩
    have e : b = s1.heap.objs.size := by simpa using hb
    subst e
    exact I1.fpOk (Nat.le_refl _) (I1.hok.fresh (Nat.le_refl _))
  · subst e
    cases r1
    obtain ⟨its, rv, p, hz⟩ := I1.tuple hq
    refine wpAny_pyIter_tuple (show s1.heap.IsTuple a its.toArray from p) ?_
    refine ⟨s1.heap.objs.size, [s1.heap.objs.size], _, _, H1, rfl, I1.kept (t' := s1.toks) fun b o e => Heap.get?_push_of_some _ e, turn_tuple a _, ⟨_, Heap.get?_push_size _ rfl, rfl, rfl⟩, fun b hb => ?_, q⟩
    have e : b = s1.heap.objs.size := by simpa using hb
    subst e
    exact I1.fpOk (Nat.le_refl _) (I1.hok.fresh (Nat.le_refl _))
theorem settle1_go {Q : D × Sls → Prop} (P : Post G Fo A H B A1 H1 σ sl1) (R : RvR G (vis H1 (U Fo B) A1) H1 σ B v r) (h : (Rs.of (settle sl1 r)).sat Q) :
    ∃ d sl2 A2, Post G Fo A H [] A2 H1 σ sl2 ∧ SR G Fo H1 σ sl2 A2 ∧ Rep G (vis H1 Fo A2) v d ∧ Q (d, sl2) := by
  obtain ⟨z, e, h⟩ := Rs.of_sat h
  obtain ⟨A2, S2, ev, rp⟩ := R.settle P.st P.out e
  exact ⟨z.1, z.2, A2, P.settled S2 ev, S2, rp, h⟩
abbrev RI (G : Gx) (T : Tab) (cf : CF) (X : Cx) (tg it : Expr) (p : PI) : Prop := L2.PI X tg it (tI G T cf p)
theorem ri_of (he : RE G T cf X e pa) (hK : G.K = X.K := by rfl) : RI G T cf X tg e (.of pa) := PI.imp (pi_seq he) fun σ H R h => by
  rw [← hK]
  obtain ⟨Fo, A, sl, S, h⟩ := h
  unfold evI at h
  refine ⟨Fo, A, sl, S, Rs.sat_mono (Rs.sat_bind.mp h) fun p h H1 A1 B x P R0 => ?_⟩
  obtain ⟨d, sl2, A2, P2, S2, rp, h⟩ := settle1_go P R0 (Rs.sat_bind.mp h)
  cases d <;> first | exact (show False from h).elim | skip
  case lst xs =>
    obtain ⟨a, vs, e1, e2, e3⟩ := rp
    exact ⟨a, e1, .inl ⟨⟨vs, SqL.of (hide_sub _ _ e2)⟩, h _ H1 A2 P2 (walks_list (SqL.of e2) e3)⟩⟩
  case tup xs =>
    obtain ⟨a, vs, e1, e2, e3⟩ := rp
    exact ⟨a, e1, .inr ⟨⟨vs, SqT.of (hide_sub _ _ e2)⟩, h _ H1 A2 P2 (walks_tup (SqT.of e2) e3)⟩⟩
  case scr ns =>
    obtain ⟨a, e1, e2⟩ := rp
    exact ⟨a, e1, .inl ⟨⟨_, hide_sub.seq e2⟩, h _ H1 A2 P2 (walks_list e2 (reps_int ns))⟩⟩
theorem ri_rng1 (he : RE G T cf X e pa) (hg : Gl X "range") (hm : X.mg "range" = none) (hs : starEach [e] X.env = [(false, eval e X.env)] := by rfl) : RI G T cf X tg (.Call (.Name "range" p) [e] [] pos) (.rng1 pa) :=
  PI.imp (pi_range1 hg hm (pa_cons he pa_nil hs) hs) fun σ H R h => by
    obtain ⟨Fo, A, sl, S, h⟩ := h
    unfold evI at h
    refine ⟨Fo, A, sl, S, Rs.sat_mono (Rs.sat_bind.mp h) fun p h H1 A1 B x P R0 => ?_⟩
    obtain ⟨d, e, h⟩ := Rs.of_sat (Rs.sat_bind.mp h)
    have rv := R0.view P.st e
    cases d <;> first | exact (show False from h).elim | skip
    rename_i n
    obtain ⟨z, h⟩ := if_sat (show (if _ then _ else _ : Rs _).sat _ from h)
    have rv : x = .int n := rv
    subst rv
    exact ⟨n, rfl, z.2, z.1, h _ H1 A1 P.opn.1 (walks_range (by omega))⟩
theorem ri_rng2 (ha : RE G T cf X a pa) (hb : RE G T cf X b pb) (hg : Gl X "range") (hm : X.mg "range" = none) (hs : starEach [a, b] X.env = [(false, eval a X.env), (false, eval b X.env)] := by rfl) (hs2 : starEach [b] X.env = [(false, eval b X.env)] := by rfl) :
    RI G T cf X tg (.Call (.Name "range" p) [a, b] [] pos) (.rng2 pa pb) :=
  PI.imp (pi_range2 hg hm (pa_cons ha (pa_cons hb pa_nil hs2) (by rw [hs, hs2])) hs hs2) fun σ H R h => by
    obtain ⟨Fo, A, sl, S, h⟩ := h
    unfold evI at h
    refine go2 S h fun p q H1 A1 B1 B2 x y P R1 R2 h => ?_
    obtain ⟨d1, e1, h⟩ := Rs.of_sat (Rs.sat_bind.mp h)
    obtain ⟨d2, e2, h⟩ := Rs.of_sat (Rs.sat_bind.mp h)
    have r1 := R1.view P.st e1
    have r2 := R2.view P.st e2
    obtain ⟨m, em⟩ : ∃ m, d1 = .int m := by
      cases d1 <;> first | exact ⟨_, rfl⟩ | exact (show False from h).elim
    subst em
    obtain ⟨n, en⟩ : ∃ n, d2 = .int n := by
      cases d2 <;> first | exact ⟨_, rfl⟩ | exact (show False from h).elim
    subst en
    obtain ⟨z, h⟩ := if_sat (show (if _ then _ else _ : Rs _).sat _ from h)
    have r1 : x = .int m := r1
    have r2 : y = .int n := r2
    subst r1 r2
    exact ⟨m, n, rfl, z, h _ H1 A1 P.opn.1 (walks_range rfl)⟩
theorem ri_enum {tpos : Pos} {elts : List Expr} {kk : Nat} (he : RE G T cf X e pa) (hg : Gl X "enumerate") (hm : X.mg "enumerate" = none) (hs : starEach [e] X.env = [(false, eval e X.env)] := by rfl) (hK : G.K = X.K := by rfl) :
    RI G T cf X (.Tuple elts kk tpos) (.Call (.Name "enumerate" p) [e] [] pos) (.enum pa) :=
  PI.imp (pi_enumB hg hm (pa_cons he pa_nil hs) hs) fun σ H R h => by
    rw [← hK]
    obtain ⟨Fo, A, sl, S, h⟩ := h
    unfold evI at h
    refine ⟨Fo, A, sl, S, Rs.sat_mono (Rs.sat_bind.mp h) fun p h H1 A1 B x P R0 => ?_⟩
    obtain ⟨d, sl2, A2, P2, S2, rp, h⟩ := settle1_go P R0 (Rs.sat_bind.mp h)
    cases d <;> first | exact (show False from h).elim | skip
    · obtain ⟨a, vs, e1, e2, e3⟩ := rp
      subst e1
      exact ⟨a, vs, rfl, .inl ⟨SqL.of (hide_sub _ _ e2), h _ H1 A2 P2 (walks_enum (SqL.of e2) e3)⟩⟩
    · obtain ⟨a, vs, e1, e2, e3⟩ := rp
      subst e1
      exact ⟨a, vs, rfl, .inr ⟨SqT.of (hide_sub _ _ e2), h _ H1 A2 P2 (walks_enumT (SqT.of e2) e3)⟩⟩
/-! ### targets -/
def Tgt.ids : Tgt → List Nat
  | .one i => [i]
  | .many is => is
variable (G) in
def tG (tg : Tgt) : TG := fun v σ H Q => ∃ Fo A sl d, SR G Fo H σ sl A ∧ Rep G (vis H Fo A) v d ∧ (giveT tg d sl).sat fun sl' => ∀ σ' A', SR G Fo H σ' sl' A' → Same (vis H Fo A) (vis H Fo A') → (∀ ws : List Nat, (∀ i ∈ tg.ids, i ∈ ws) → wipe σ' ws = wipe σ ws) → Q σ' H
variable (G) in
def tGs (is : List Nat) : TGs := fun vs σ H Q => ∃ Fo A sl ds, SR G Fo H σ sl A ∧ Reps G (vis H Fo A) vs ds ∧ (setAll sl is ds).sat fun sl' => ∀ σ' A', SR G Fo H σ' sl' A' → Same (vis H Fo A) (vis H Fo A') → (∀ ws : List Nat, (∀ i ∈ is, i ∈ ws) → wipe σ' ws = wipe σ ws) → Q σ' H
theorem wipe_get (σ : L2.St) (j : Nat) : ∀ ws : List Nat, (wipe σ ws)[j]? = if j ∈ ws then σ[j]?.map fun _ => none else σ[j]?
  | [] => by simp [wipe]
  | w :: ws => by
    unfold wipe
    by_cases q : w = j
    · subst q
      by_cases l : w < σ.length
      · rw [List.getElem?_set_self (by rw [wipe_length]; exact l)]
        simp [l]
      · rw [List.getElem?_eq_none (by rw [List.length_set, wipe_length]; exact Nat.le_of_not_lt l)]
        simp [l]
    · rw [List.getElem?_set_ne q, wipe_get σ j ws]
      have : (j ∈ w :: ws) ↔ j ∈ ws := by
        rw [List.mem_cons]
        exact ⟨fun z => z.elim (fun z => absurd z.symm q) id, .inr⟩
      by_cases m : j ∈ ws
      · rw [if_pos m, if_pos (this.mpr m)]
      · rw [if_neg m, if_neg fun z => m (this.mp z)]
theorem wipe_set {i : Nat} {x : Option V} {ws : List Nat} (h : i ∈ ws) : wipe (σ.set i x) ws = wipe σ ws := by
  apply List.ext_getElem?
  intro j
  rw [wipe_get, wipe_get]
  by_cases q : i = j
  · subst q
    rw [if_pos h, if_pos h]
    by_cases l : i < σ.length
    · rw [List.getElem?_set_self l, List.getElem?_eq_getElem l]; rfl
    · rw [List.getElem?_eq_none (by rw [List.length_set]; exact Nat.le_of_not_lt l), List.getElem?_eq_none (Nat.le_of_not_lt l)]
  · rw [List.getElem?_set_ne q]
theorem setS_go {i : Nat} {x : Sl} {Q : Sls → Prop} (h : (setS sl i x).sat Q) : i < sl.length ∧ Q (sl.set i x) := by
  unfold setS at h
  cases e : sl[i]? with
  | none => rw [e] at h; exact h.elim
  | some y =>
    rw [e] at h
    refine ⟨(List.getElem?_eq_some_iff.mp e).1, ?_⟩
    cases y with
    | ow b p => cases b <;> first | exact (show False from h).elim | exact h
    | un => exact h
    | va d => exact h
theorem g_name {i : Nat} {v : V} {Q : L2.St → Hp → Prop} (h : tG G (.one i) v σ H Q) : gName i v σ H Q := by
  obtain ⟨Fo, A, sl, d, S, r, h⟩ := h
  obtain ⟨hi, h⟩ := setS_go (show (setS sl i (.va d)).sat _ from h)
  obtain ⟨S', ev⟩ := S.setV hi r
  exact h _ _ S' ev fun ws hw => wipe_set (hw i List.mem_cons_self)
theorem PG.imp {e : Expr} {t t' : TG} (h : L2.PG X e t) (k : ∀ v σ H Q, t' v σ H Q → t v σ H Q) : L2.PG X e t' := ⟨fun pins s σ H v u Q I r q => h.run pins s σ H v u Q I r (k v σ H Q q)⟩
theorem PGs.imp {es : List Expr} {t t' : TGs} (h : L2.PGs X es t) (k : ∀ v σ H Q, t' v σ H Q → t v σ H Q) : L2.PGs X es t' := ⟨fun pins s σ H v u Q I r q => h.run pins s σ H v u Q I r (k v σ H Q q)⟩
theorem rg_one (i : Nat) {x : Str} (hN : X.N.Nodup) (hi : X.N[i]? = some x := by rfl) (hx : Loc X.env.scope x := by first | exact Or.inl rfl | exact Or.inr rfl) (hf : X.fn x = true ∨ X.env.scope.names.lookup x = some .local := by first | exact .inl rfl | exact .inr rfl | assumption) :
    L2.PG X (.Name x pos) (tG G (.one i)) := PG.imp (pg_name hN hi hx hf) fun _ _ _ _ => g_name
theorem rgs_nil : L2.PGs X [] (tGs G []) := PGs.imp pgs_nil fun vs σ H Q h => by
  obtain ⟨Fo, A, sl, ds, S, r, h⟩ := h
  cases ds with
  | nil => exact ⟨r, (show ∀ σ' A', SR G Fo H σ' sl A' → _ → _ → Q σ' H from h) σ A S (Same.refl _) fun _ _ => rfl⟩
  | cons d ds => exact h.elim
theorem rgs_cons (i : Nat) {is : List Nat} {x : Str} {es : List Expr} (hN : X.N.Nodup) (h2 : L2.PGs X es (tGs G is)) (hi : X.N[i]? = some x := by rfl) (hx : Loc X.env.scope x := by first | exact Or.inl rfl | exact Or.inr rfl) (hf : X.fn x = true ∨ X.env.scope.names.lookup x = some .local := by first | exact .inl rfl | exact .inr rfl | assumption)
    (hs : (assignEach (.Name x pos :: es) X.env).map (·.2) = assign (.Name x pos) X.env :: (assignEach es X.env).map (·.2) := by rfl) : L2.PGs X (.Name x pos :: es) (tGs G (i :: is)) :=
  PGs.imp (pgs_cons (pg_name (pos := pos) hN hi hx hf) h2 hs) fun vs σ H Q h => by
    obtain ⟨Fo, A, sl, ds, S, r, h⟩ := h
    cases ds with
    | nil => exact h.elim
    | cons d ds =>
      obtain ⟨v, ws, e1, r1, r2⟩ := r
      obtain ⟨hi, h⟩ := setS_go (Rs.sat_bind.mp h)
      obtain ⟨S', ev⟩ := S.setV hi r1
      refine ⟨v, ws, e1, Fo, _, _, ds, S', r2.mono ev, Rs.sat_mono h fun sl' k σ' A' S2 ev2 w => k σ' A' S2 (ev.trans ev2) fun us hu => ?_⟩
      rw [w us fun j hj => hu j (List.mem_cons_of_mem _ hj), wipe_set (hu i List.mem_cons_self)]
theorem setAll_len : ∀ {is : List Nat} {ds : List D} {sl : Sls} {Q : Sls → Prop}, (setAll sl is ds).sat Q → ds.length = is.length
  | [], [], _, _, _ => rfl
  | [], _ :: _, _, _, h => h.elim
  | _ :: _, [], _, _, h => h.elim
  | i :: is, d :: ds, sl, Q, h => by
    obtain ⟨_, h⟩ := setS_go (Rs.sat_bind.mp h)
    simp [setAll_len h]
theorem g_many {is : List Nat} {n : Nat} (hn : is.length = n) {v : V} {Q : L2.St → Hp → Prop} (h : tG G (.many is) v σ H Q) : gTup G.K n (tGs G is) v σ H Q := by
  obtain ⟨Fo, A, sl, d, S, r, h⟩ := h
  cases d <;> first | exact (show False from h).elim | skip
  rename_i ds
  obtain ⟨a, us, e1, e2, e3⟩ := r
  exact ⟨a, us, e1, SqT.of (hide_sub _ _ e2), by rw [e3.len, setAll_len (show (setAll sl is ds).sat _ from h), hn], Fo, A, sl, ds, S, e3, h⟩
theorem rg_many {is : List Nat} {k : Nat} (hc : X.calm = true) (h : L2.PGs X es (tGs G is)) (hn : (assignEach es X.env).length = is.length := by rfl) (hst : (assignEach es X.env).findIdx? (·.1) = none := by rfl) (hK : G.K = X.K := by rfl) : L2.PG X (.Tuple es k pos) (tG G (.many is)) :=
  PG.imp (pg_tup hc h hn hst) fun _ _ _ _ q => by rw [← hK]; exact g_many rfl q
/-! ### comprehensions -/
variable (G T cf) in
def tC' (po : POpt) : TT := fun σ H Q => ∃ Fo A sl, SR G Fo H σ sl A ∧ (evC T cf po sl).sat (KT G Fo A H σ Q)
theorem PTs.imp {es : List Expr} {t t' : TT} (h : L2.PTs X es t) (k : ∀ σ H Q, t' σ H Q → t σ H Q) : L2.PTs X es t' := ⟨fun pins s σ H Q I q => h.run pins s σ H Q I (k σ H Q q)⟩
theorem rc_none : L2.PTs X [] (tC' G T cf .none) := PTs.imp pts_nil fun σ H Q h => by
  obtain ⟨Fo, A, sl, S, h⟩ := h
  unfold evC at h
  exact (show KT G Fo A H σ Q (true, sl) from h) H A (Post.refl S)
theorem rc_some (h : RT G T cf X e pa) : L2.PTs X [e] (tC' G T cf (.some pa)) := PTs.imp (pts_one h) fun σ H Q h => by
  obtain ⟨Fo, A, sl, S, h⟩ := h
  unfold evC at h
  exact ⟨Fo, A, sl, S, h⟩
theorem wipeS_len (sl : Sls) : ∀ ws : List Nat, (wipeS sl ws).length = sl.length
  | [] => rfl
  | w :: ws => by unfold wipeS; rw [List.length_set, wipeS_len sl ws]
theorem wipeS_get (sl : Sls) (j : Nat) : ∀ ws : List Nat, (wipeS sl ws)[j]? = if j ∈ ws then sl[j]?.map fun _ => .un else sl[j]?
  | [] => by simp [wipeS]
  | w :: ws => by
    unfold wipeS
    by_cases q : w = j
    · subst q
      by_cases l : w < sl.length
      · rw [List.getElem?_set_self (by rw [wipeS_len]; exact l)]
        simp [l]
      · rw [List.getElem?_eq_none (by rw [List.length_set, wipeS_len]; exact Nat.le_of_not_lt l)]
        simp [l]
    · rw [List.getElem?_set_ne q, wipeS_get sl j ws]
      have : (j ∈ w :: ws) ↔ j ∈ ws := by
        rw [List.mem_cons]
        exact ⟨fun z => z.elim (fun z => absurd z.symm q) id, .inr⟩
      by_cases m : j ∈ ws
      · rw [if_pos m, if_pos (this.mpr m)]
      · rw [if_neg m, if_neg fun z => m (this.mp z)]
theorem backS_len (o sl : Sls) : ∀ ws : List Nat, (backS o sl ws).length = sl.length
  | [] => rfl
  | w :: ws => by
    unfold backS
    cases o[w]? with
    | none => exact backS_len o sl ws
    | some x => rw [List.length_set, backS_len o sl ws]
theorem backS_get (o sl : Sls) (hl : o.length = sl.length) (j : Nat) : ∀ ws : List Nat, (backS o sl ws)[j]? = if j ∈ ws then o[j]? else sl[j]?
  | [] => by simp [backS]
  | w :: ws => by
    unfold backS
    have ne : ¬ w = j → ((j ∈ w :: ws) ↔ j ∈ ws) := fun q => by
      rw [List.mem_cons]
      exact ⟨fun z => z.elim (fun z => absurd z.symm q) id, .inr⟩
    cases e : o[w]? with
    | none =>
      show (backS o sl ws)[j]? = _
      rw [backS_get o sl hl j ws]
      by_cases q : w = j
      · subst q
        have l : o.length ≤ w := List.getElem?_eq_none_iff.mp e
        rw [if_pos List.mem_cons_self, e, List.getElem?_eq_none (by omega)]
        split <;> rfl
      · by_cases m : j ∈ ws
        · rw [if_pos m, if_pos ((ne q).mpr m)]
        · rw [if_neg m, if_neg fun z => m ((ne q).mp z)]
    | some x =>
      show ((backS o sl ws).set w x)[j]? = _
      by_cases q : w = j
      · subst q
        have l : w < o.length := (List.getElem?_eq_some_iff.mp e).1
        rw [List.getElem?_set_self (by rw [backS_len]; omega), if_pos List.mem_cons_self, e]
      · rw [List.getElem?_set_ne q, backS_get o sl hl j ws]
        by_cases m : j ∈ ws
        · rw [if_pos m, if_pos ((ne q).mpr m)]
        · rw [if_neg m, if_neg fun z => m ((ne q).mp z)]
theorem calm_at {ws : List Nat} (h : calmS sl ws = true) {j : Nat} (hj : j ∈ ws) : sl[j]? = some .un ∨ ∃ d, sl[j]? = some (.va d) := by
  have := List.all_eq_true.mp h j hj
  cases e : sl[j]? with
  | none => rw [e] at this; simp at this
  | some x =>
    rw [e] at this
    cases x with
    | un => exact .inl rfl
    | va d => exact .inr ⟨d, rfl⟩
    | ow b p => simp at this
theorem SR.wipe {ws : List Nat} (S : SR G Fo H σ sl A) (hc : calmS sl ws = true) : SR G Fo H (L2.wipe σ ws) (wipeS sl ws) A := by
  have out : ∀ (j : Nat) x, (wipeS sl ws)[j]? = some x → x = .un ∨ (j ∉ ws ∧ sl[j]? = some x) := fun j x e => by
    rw [wipeS_get] at e
    by_cases m : j ∈ ws
    · rw [if_pos m] at e
      cases z : sl[j]? with
      | none => rw [z] at e; cases e
      | some y => rw [z] at e; exact .inl (Option.some.inj e).symm
    · rw [if_neg m] at e; exact .inr ⟨m, e⟩
  have gσ : ∀ j, j ∉ ws → (L2.wipe σ ws)[j]? = σ[j]? := fun j m => by rw [wipe_get, if_neg m]
  refine ⟨by rw [wipe_length, wipeS_len]; exact S.len, fun j d e => ?_, fun j b p e => ?_, fun j h => ?_, S.nd, S.dj, S.fd, S.fa, fun j p e => ?_⟩
  · rcases out j _ e with z | ⟨m, z⟩
    · cases z
    · rw [gσ j m]; exact S.va j d z
  · rcases out j _ e with z | ⟨m, z⟩
    · cases z
    · rw [gσ j m]; exact S.ow j b p z
  · by_cases m : j ∈ ws
    · refine S.no j fun b p z => ?_
      rcases calm_at hc m with w | ⟨d, w⟩ <;> (rw [w] at z; cases z)
    · refine S.no j fun b p z => h b p ?_
      rw [wipeS_get, if_neg m]; exact z
  · rcases out j _ e with z | ⟨m, z⟩
    · cases z
    · rw [gσ j m]; exact S.ro j p z
/-- the own names of a block come back -/
theorem SR.back {ws : List Nat} {sl0 : Sls} {A0 : Nat → List Addr} {H0 : Hp} {Fo0 : Fx} (S : SR G Fo H (L2.wipe σ ws) (wipeS sl ws) A) (S0 : SR G Fo0 H0 σ sl0 A0) (ev : Same (vis H0 Fo0 A0) (vis H Fo A)) (hc0 : calmS sl0 ws = true) : SR G Fo H σ (backS sl0 sl ws) A := by
  have hl : sl0.length = sl.length := by
    have h1 := S.len
    rw [wipe_length, wipeS_len] at h1
    exact S0.len.symm.trans h1
  have g : ∀ j, (backS sl0 sl ws)[j]? = if j ∈ ws then sl0[j]? else sl[j]? := fun j => backS_get sl0 sl hl j ws
  have gw : ∀ j, j ∉ ws → (wipeS sl ws)[j]? = sl[j]? ∧ (L2.wipe σ ws)[j]? = σ[j]? := fun j m => ⟨by rw [wipeS_get, if_neg m], by rw [wipe_get, if_neg m]⟩
  have own : ∀ j b p, j ∈ ws → sl0[j]? ≠ some (Sl.ow b p) := fun j b p m z => by
    rcases calm_at hc0 m with w | ⟨d, w⟩ <;> (rw [w] at z; cases z)
  refine ⟨by rw [backS_len]; rw [← hl]; exact S0.len, fun j d e => ?_, fun j b p e => ?_, fun j h => ?_, S.nd, S.dj, S.fd, S.fa, fun j p e => ?_⟩
  · rw [g] at e
    by_cases m : j ∈ ws
    · rw [if_pos m] at e
      obtain ⟨v, w1, w2⟩ := S0.va j d e
      exact ⟨v, w1, w2.mono ev⟩
    · rw [if_neg m] at e
      obtain ⟨v, w1, w2⟩ := S.va j d ((gw j m).1.trans e)
      exact ⟨v, (gw j m).2.symm.trans w1, w2⟩
  · rw [g] at e
    by_cases m : j ∈ ws
    · rw [if_pos m] at e; exact absurd e (own j b p m)
    · rw [if_neg m] at e
      obtain ⟨v, w1, w2⟩ := S.ow j b p ((gw j m).1.trans e)
      exact ⟨v, (gw j m).2.symm.trans w1, w2⟩
  · refine S.no j fun b p z => ?_
    rw [wipeS_get] at z
    by_cases m : j ∈ ws
    · rw [if_pos m] at z
      cases w : sl[j]? with
      | none => rw [w] at z; cases z
      | some y => rw [w] at z; cases z
    · rw [if_neg m] at z
      exact h b p (by rw [g, if_neg m]; exact z)
  · rw [g] at e
    by_cases m : j ∈ ws
    · rw [if_pos m] at e; exact absurd e (own j _ p m)
    · rw [if_neg m] at e
      exact (gw j m).2.symm.trans (S.ro j p ((gw j m).1.trans e))
theorem hide_upd {P : AS} {D0 : Addr} {o : HO} (h : P D0) : hide (upd H D0 o) P = hide H P := by
  funext b
  by_cases q : P b
  · rw [hide_yes q, hide_yes q]
  · rw [hide_no q, hide_no q, upd_ne fun z => q (by rw [z]; exact h)]
theorem SR.hid {D0 : Addr} {o : HO} (S : SR G Fo H σ sl A) (h : Fo D0) : SR G Fo (upd H D0 o) σ sl A := by
  have e : vis (upd H D0 o) Fo A = vis H Fo A := hide_upd (.inl h)
  refine ⟨S.len, fun j d q => by rw [show hide (upd H D0 o) (Hd Fo A) = hide H (Hd Fo A) from e]; exact S.va j d q, fun j b p q => ?_, S.no, S.nd, S.dj, S.fd, fun x z => ?_, S.ro⟩
  · obtain ⟨a, w1, w2⟩ := S.ow j b p q
    refine ⟨a, w1, ?_⟩
    rw [show hide (upd H D0 o) (Hd Fo A) = hide H (Hd Fo A) from e]
    exact w2.mono (Same.refl _) fun x hx => upd_ne fun z => S.fd j x hx (by rw [z]; exact h)
  · by_cases q : x = D0
    · subst q; rw [upd_same]; simp
    · rw [upd_ne q]; exact S.fa x z
end
end Pf

/-! Pf10: comprehensions -/
namespace Pf
open PySem L2
section
variable {G : Gx} {T : Tab} {cf : CF} {Fo : Fx} {A A1 A2 A' : Nat → List Addr} {H H1 H2 H' Hs Hs' : Hp} {σ : L2.St} {sl sl1 sl2 sl' : Sls} {B B1 B2 B' : List Addr} {v : V} {r : Rv} {vs : List V} {rs : List Rv}
variable {X : Cx} {a b c e o tg : Expr} {es : List Expr} {pa pb pc : PE} {ps : PEs} {pos p apos : Pos}
/-- one turn of a comprehension -/
def lcBody (T : Tab) (cf : CF) (own : List Nat) (tg : Tgt) (cond : POpt) (elt : PE) : D → Sls → Rs (Option D × Sls) := fun d sl => (giveT tg d (wipeS sl own)).bind fun sl => (evC T cf cond sl).bind fun c => if c.1 = true then (evE T cf elt c.2).bind fun r => (Rs.of (settle r.2 r.1)).bind fun y => if calmS y.2 own = true then .ok (some y.1, y.2) else .stuck
        else if calmS c.2 own = true then .ok (none, c.2) else .stuck
theorem evE_lc (own : List Nat) (tg : Tgt) (it : PI) (cond : POpt) (elt : PE) (sl : Sls) : evE T cf (.lc own tg it cond elt) sl = (evI T cf it sl).bind fun p => if calmS p.2 own = true ∧ p.1.length < sizeLine then
      (lcLoop (lcBody T cf own tg cond elt) p.1 p.2).bind fun q => if calmS q.2 own = true then .ok (.fr (.lst q.1), backS p.2 q.2 own) else .stuck else .stuck := by
  rw [evE]
  rfl
/-- the invariant of the loop -/
structure LcI (G : Gx) (T : Tab) (cf : CF) (own : List Nat) (tg : Tgt) (cond : POpt) (elt : PE) (Fo : Fx) (D0 : Addr) (Hs H1 : Hp) (σ : L2.St) (ds : List D) (K : List D × Sls → Prop) (i : Nat) (H : Hp) (A : Nat → List Addr) (sl : Sls) (accD : List D) (accV : List V) : Prop where
  sr : SR G (U Fo [D0]) H (wipe σ own) (wipeS sl own) A
  at' : H D0 = some (.lst accV)
  acc : Reps G (vis H (U Fo [D0]) A) accV accD
  ext : Same Hs (vis H (U Fo [D0]) A)
  fo : ∀ x, Fo x → H x = H1 x
  len : accD.length ≤ i
  go : (lcLoop (lcBody T cf own tg cond elt) (ds.drop i) sl).sat fun q => K (accD ++ q.1, q.2)
theorem wipe_wipe (σ : L2.St) (ws : List Nat) : wipe (wipe σ ws) ws = wipe σ ws := by
  apply List.ext_getElem?
  intro j
  rw [wipe_get, wipe_get]
  by_cases m : j ∈ ws
  · rw [if_pos m, if_pos m, Option.map_map]; rfl
  · rw [if_neg m, if_neg m]
theorem lc_loop {own : List Nat} {tgt : Tgt} {cond : POpt} {elt : PE} (hids : ∀ i ∈ tgt.ids, i ∈ own) {ds : List D} {J : It} {D0 : Addr} (S1 : SR G Fo H1 σ sl1 A1) (hc : calmS sl1 own = true) (hz : ds.length < sizeLine) (W : Walks G J ds (vis H1 Fo A1) (fun H2 => ∀ x, Fo x → H2 x = H1 x)) (hD : H1 D0 = none)
    {K : List D × Sls → Prop} {Qd : Hp → Prop} (h : (lcLoop (lcBody T cf own tgt cond elt) ds sl1).sat K)
    (fin : ∀ H' A' sl' accD accV, SR G (U Fo [D0]) H' σ (backS sl1 sl' own) A' → H' D0 = some (.lst accV) → Reps G (vis H' (U Fo [D0]) A') accV accD → Same (vis H1 Fo A1) (vis H' (U Fo [D0]) A') → (∀ x, Fo x → H' x = H1 x) → K (accD, sl') → Qd H') :
    ∃ W : Nat → Nat → Hp → Prop, (∃ m, W 0 m (upd H1 D0 (.lst []))) ∧ ∀ i m H, W i m H →
      (J.stop i H ∧ Qd H) ∨ (J.go i H ∧ ∃ Nx : Hp → Prop, (∀ H', Nx H' → ∃ m', m' < m ∧ W (i + 1) m' H') ∧ ∀ x H', J.yld i H x H' → tG G tgt x (wipe σ own) H' fun σ2 H2 => wipe σ2 own = wipe σ own ∧ tC' G T cf cond σ2 H2 fun b H3 =>
        if b = true then tE G T cf elt σ2 H3 fun y H4 => ∃ acc, H4 D0 = some (.lst acc) ∧ acc.length < sizeLine ∧ Nx (upd H4 D0 (.lst (acc ++ [y]))) else Nx H3) := by
  have PD := S1.grow (H' := upd H1 D0 (.lst [])) (B := [D0]) (same_upd hD) (by simp) fun x hx => by
    have : x = D0 := by simpa using hx
    subst this
    exact ⟨hD, by rw [upd_same]; simp⟩
  have nF : ¬ Fo D0 := PD.out D0 List.mem_cons_self
  have nD : ∀ x, Fo x → x ≠ D0 := fun x hx z => nF (by rw [← z]; exact hx)
  refine ⟨fun i m H => m = ds.length - i ∧ i ≤ ds.length ∧ ∃ A sl accD accV, LcI G T cf own tgt cond elt Fo D0 (vis H1 Fo A1) H1 σ ds K i H A sl accD accV, ⟨_, rfl, Nat.zero_le _, A1, sl1, [], [], ⟨?_, upd_same, rfl, PD.ext, fun x hx => upd_ne (nD x hx), Nat.le_refl _, ?_⟩⟩, ?_⟩
  · exact PD.st.wipe hc
  · rw [List.drop_zero]
    exact Rs.sat_mono h fun q k => k
  · rintro i m H ⟨rfl, hi, A, sl, accD, accV, I⟩
    have eH : Same (vis H1 Fo A1) H := I.ext.trans hide_sub
    by_cases hlt : i < ds.length
    · refine .inr ⟨W.go i H eH I.fo hlt, fun H' => ∃ A sl accD accV, LcI G T cf own tgt cond elt Fo D0 (vis H1 Fo A1) H1 σ ds K (i + 1) H' A sl accD accV, fun H' q => ⟨ds.length - (i + 1), by omega, rfl, hlt, q⟩, fun x H' yl => ?_⟩
      have ed : ds[i]? = some ds[i] := by simp [hlt]
      obtain ⟨gr, rp⟩ := W.yld i H x H' ds[i] eH I.fo yl ed
      have hgo := I.go
      rw [List.drop_eq_getElem_cons hlt] at hgo
      unfold lcLoop at hgo
      have hgo := Rs.sat_bind.mp hgo
      -- the state when the item has come
      have P0 := I.sr.grow gr List.nodup_nil fun _ h => absurd h List.not_mem_nil
      have S0 : SR G (U Fo [D0]) H' (wipe σ own) (wipeS sl own) A := P0.sr
      have ev0 : Same (vis H (U Fo [D0]) A) (vis H' (U Fo [D0]) A) := by have := P0.ext; rw [U_nil] at this; exact this
      have rx := rp (Hd (U Fo [D0]) A) (fun y hy => by
        rcases hy with hy | ⟨j, hy⟩
        · exact I.sr.fa y hy
        · obtain ⟨o, e⟩ := I.sr.there hy
          rw [e]; simp) I.ext
      unfold lcBody at hgo
      have hgo := Rs.sat_bind.mp hgo
      refine ⟨U Fo [D0], A, wipeS sl own, ds[i], S0, rx, Rs.sat_mono hgo fun sl2 hgo σ2 A2 S2 ev2 hw0 => ?_⟩
      have hw : wipe σ2 own = wipe σ own := (hw0 own hids).trans (wipe_wipe σ own)
      refine ⟨hw, ?_⟩
      refine ⟨U Fo [D0], A2, sl2, S2, Rs.sat_mono (Rs.sat_bind.mp hgo) fun c hgo H3 A3 P3 => ?_⟩
      have at3 : H3 D0 = some (.lst accV) := (P3.fo D0 (.inr List.mem_cons_self)).trans ((P0.fo D0 (.inr List.mem_cons_self)).trans I.at')
      have ev3 : Same (vis H (U Fo [D0]) A) (vis H3 (U Fo [D0]) A3) := by
        have := P3.ext
        rw [U_nil] at this
        exact (ev0.trans ev2).trans this
      have fo3 : ∀ x, Fo x → H3 x = H1 x := fun y hy => (P3.fo y (.inl hy)).trans ((P0.fo y (.inl hy)).trans (I.fo y hy))
      have S3 : SR G (U Fo [D0]) H3 σ2 c.2 A3 := P3.sr
      have acl : accV.length < sizeLine := by
        rw [I.acc.len]
        exact Nat.lt_of_le_of_lt I.len (Nat.lt_trans hlt hz)
      show if c.1 = true then _ else _
      by_cases hb : c.1 = true
      · rw [if_pos hb] at hgo ⊢
        refine ⟨U Fo [D0], A3, c.2, S3, Rs.sat_mono (Rs.sat_bind.mp hgo) fun r hgo H4 A4 B4 y P4 R4 => ?_⟩
        obtain ⟨d, sl5, A5, P5, S5, ry, hgo⟩ := settle1_go P4 R4 (Rs.sat_bind.mp hgo)
        obtain ⟨hcalm, hgo⟩ := if_sat hgo
        have hgo := Rs.sat_bind.mp hgo
        have at5 : H4 D0 = some (.lst accV) := (P5.fo D0 (.inr List.mem_cons_self)).trans at3
        refine ⟨accV, at5, acl, A5, sl5, accD ++ [d], accV ++ [y], ?_⟩
        have ev5 : Same (vis H (U Fo [D0]) A) (vis H4 (U Fo [D0]) A5) := by
          have := P5.ext
          rw [U_nil] at this
          exact ev3.trans this
        have eU : vis (upd H4 D0 (.lst (accV ++ [y]))) (U Fo [D0]) A5 = vis H4 (U Fo [D0]) A5 := hide_upd (.inl (.inr List.mem_cons_self))
        refine ⟨?_, upd_same, ?_, ?_, fun z hz => ?_, ?_, ?_⟩
        · have := (S5.wipe hcalm).hid (D0 := D0) (o := .lst (accV ++ [y])) (.inr List.mem_cons_self)
          rw [hw] at this
          exact this
        · rw [eU]
          exact (I.acc.mono ev5).app ⟨y, [], rfl, ry, rfl⟩
        · rw [eU]
          exact I.ext.trans ev5
        · rw [upd_ne (nD z hz)]
          exact (P5.fo z (.inl hz)).trans (fo3 z hz)
        · rw [List.length_append]
          have := I.len
          simp; omega
        · refine Rs.sat_mono hgo fun q k => ?_
          have k : K (accD ++ (d :: q.1), q.2) := k
          rw [List.append_assoc]
          exact k
      · rw [if_neg hb] at hgo ⊢
        obtain ⟨hcalm, hgo⟩ := if_sat hgo
        have hgo := Rs.sat_bind.mp hgo
        refine ⟨A3, c.2, accD, accV, ?_, at3, I.acc.mono ev3, I.ext.trans ev3, fo3, Nat.le_succ_of_le I.len, ?_⟩
        · have := S3.wipe hcalm
          rw [hw] at this
          exact this
        · exact Rs.sat_mono hgo fun q k => k
    · have e : i = ds.length := by omega
      subst e
      refine .inl ⟨W.stop _ H eH I.fo (Nat.le_refl _), ?_⟩
      have hgo := I.go
      rw [List.drop_length] at hgo
      have hgo : K (accD ++ [], sl) := hgo
      rw [List.append_nil] at hgo
      exact fin H A sl accD accV (SR.back I.sr S1 I.ext hc) I.at' I.acc I.ext I.fo hgo
theorem lc_i {own : List Nat} {tgt : Tgt} {pit : PI} {cond : POpt} {elt : PE} (hids : ∀ i ∈ tgt.ids, i ∈ own) {Q : VK} (h : tE G T cf (.lc own tgt pit cond elt) σ H Q) : tLc (tI G T cf pit) (tG G tgt) (tC' G T cf cond) (tE G T cf elt) own σ H Q := by
  obtain ⟨Fo, A, sl, S, h⟩ := h
  rw [evE_lc] at h
  refine ⟨Fo, A, sl, S, Rs.sat_mono (Rs.sat_bind.mp h) fun p h J H1 A1 P W D0 hD => ?_⟩
  obtain ⟨ds, sl1⟩ := p
  obtain ⟨⟨hc, hz⟩, h⟩ := if_satR h
  have S1 : SR G Fo H1 σ sl1 A1 := P.sr
  refine lc_loop hids S1 hc hz W hD (Rs.sat_bind.mp h) fun H' A' sl' accD accV S' at' rp ev fo k => ?_
  obtain ⟨_, k⟩ := if_sat k
  have k : KE G Fo A H σ Q (.fr (.lst accD), backS sl1 sl' own) := k
  have eP := P.ext
  rw [U_nil] at eP
  exact k H' A' [D0] (.ref D0) ⟨S', by simp, (fun x hx z => by
    have : x = D0 := by simpa using hx
    subst this
    exact S1.fa x z hD), eP.trans ev, fun x hx => (fo x hx).trans (P.fo x hx)⟩ ⟨D0, rfl, rfl, accV, at', rp⟩
theorem re_lc {elt iter : Expr} {ifs : List Expr} {scope : Scope} (own : List (Str × Nat)) {tgt : Tgt} {pit : PI} {cond : POpt} {pelt : PE} (hc : X.calm = true) (hN : X.N.Nodup) (hi : RI G T cf X tg iter pit) (ok : blkC X.N X.env.scope scope own = true)
    (hg : ∀ (s : Shared) (H : Hp) (C : Addr) (cl : List (Str × Addr)) (fp : List Addr), L2.PG (X.blk s H scope (compEnvC scope cl C X.env) fp) tg (tG G tgt)) (ht : ∀ (s : Shared) (H : Hp) (C : Addr) (cl : List (Str × Addr)) (fp : List Addr), L2.PTs (X.blk s H scope (compEnvC scope cl C X.env) fp) ifs (tC' G T cf cond))
    (he : ∀ (s : Shared) (H : Hp) (C : Addr) (cl : List (Str × Addr)) (fp : List Addr), RE G T cf (X.blk s H scope (compEnvC scope cl C X.env) fp) elt pelt) (hids : ∀ i ∈ tgt.ids, i ∈ own.map (·.2)) (hs : ∀ x, foldedSetIterable iter X.env x = pure x := by intro _; rfl) :
    RE G T cf X (.ListComp elt [⟨tg, iter, ifs, 0⟩] scope pos) (.lc (own.map (·.2)) tgt pit cond pelt) := PE.imp (pe_lc hc hN hi (blkOk_by ok) hg ht he hs) fun _ _ _ => lc_i hids
/-! ### over a list that this frame owns, which stays owned -/
theorem evE_lcO (i : Nat) (own : List Nat) (tg : Tgt) (cond : POpt) (elt : PE) (sl : Sls) : evE T cf (.lcO i own tg cond elt) sl = (match sl[i]? with
    | some (.ow b (.lst xs)) => if i ∉ own ∧ calmS (sl.set i .un) own = true ∧ xs.length < sizeLine then
      (lcLoop (lcBody T cf own tg cond elt) xs (sl.set i .un)).bind fun q =>
        if calmS q.2 own = true ∧ (match q.2[i]? with | some .un => true | _ => false) = true then .ok (.fr (.lst q.1), (backS (sl.set i .un) q.2 own).set i (.ow b (.lst xs))) else .stuck else .stuck
    | _ => .stuck) := by
  rw [evE]
  rfl
/-- slot i's thing is hidden -/
theorem SR.shut {i : Nat} (S : SR G Fo H σ sl A) (hi : ∃ o, sl[i]? = some o) : SR G (U Fo (A i)) H σ (sl.set i .un) (clrA A i) ∧ vis H (U Fo (A i)) (clrA A i) = vis H Fo A := by
  have hd : ∀ x, Hd (U Fo (A i)) (clrA A i) x ↔ Hd Fo A x := fun x => by
    constructor
    · rintro ((h | h) | ⟨j, h⟩)
      · exact .inl h
      · exact .inr ⟨i, h⟩
      · exact .inr ⟨j, (mem_clrA h).1⟩
    · rintro (h | ⟨j, h⟩)
      · exact .inl (.inl h)
      · by_cases c : j = i
        · subst c; exact .inl (.inr h)
        · exact .inr ⟨j, by rw [clrA_ne c]; exact h⟩
  have ev : vis H (U Fo (A i)) (clrA A i) = vis H Fo A := by
    have : Hd (U Fo (A i)) (clrA A i) = Hd Fo A := funext fun x => propext (hd x)
    show hide H _ = hide H _
    rw [this]
  refine ⟨⟨by rw [List.length_set]; exact S.len, fun j d e => ?_, fun j b p e => ?_, fun j h => ?_, fun j => ?_, fun j k x n hj hk => S.dj j k x n (mem_clrA hj).1 (mem_clrA hk).1, fun j x hx z => ?_, fun x z => ?_, fun j p e => ?_⟩, ev⟩
  · rcases get_set e with ⟨_, z⟩ | ⟨n, z⟩
    · cases z
    · have := S.va j d z
      show ∃ v, _ ∧ Rep G (vis H (U Fo (A i)) (clrA A i)) v d
      rw [ev]; exact this
  · rcases get_set e with ⟨_, z⟩ | ⟨n, z⟩
    · cases z
    · have := S.ow j b p z
      rw [clrA_ne n]
      show ∃ a, _ ∧ Own G (vis H (U Fo (A i)) (clrA A i)) H p a (A j)
      rw [ev]; exact this
  · by_cases c : j = i
    · subst c; exact clrA_eq
    · rw [clrA_ne c]
      exact S.no j fun b p z => h b p (by rw [List.getElem?_set_ne fun q => c q.symm]; exact z)
  · by_cases c : j = i
    · subst c; rw [clrA_eq]; exact List.nodup_nil
    · rw [clrA_ne c]; exact S.nd j
  · obtain ⟨h1, h2⟩ := mem_clrA hx
    rcases z with z | z
    · exact S.fd j x h1 z
    · exact S.dj j i x h2 h1 z
  · rcases z with z | z
    · exact S.fa x z
    · obtain ⟨o, e⟩ := S.there z
      rw [e]; simp
  · rcases get_set e with ⟨_, z⟩ | ⟨n, z⟩
    · cases z
    · exact S.ro j p z
/-- it is there again -/
theorem SR.reopen {i : Nat} {b : Bool} {p : OP} {a0 : Addr} {Ai : List Addr} (S : SR G (U Fo Ai) H' σ sl A) (hi : sl[i]? = some .un) (hσ : σ[i]? = some (some (.ref a0))) (ho : Own G (vis H' (U Fo Ai) A) H' p a0 Ai) (nd : Ai.Nodup) (hF : ∀ x ∈ Ai, ¬ Fo x) (hb : b = false → a0 = Fo.ro i) :
    SR G Fo H' σ (sl.set i (.ow b p)) (fun j => if j = i then Ai else A j) ∧ vis H' Fo (fun j => if j = i then Ai else A j) = vis H' (U Fo Ai) A := by
  have Ai0 : A i = [] := S.no i fun b p z => by rw [hi] at z; cases z
  have hd : ∀ x, Hd Fo (fun j => if j = i then Ai else A j) x ↔ Hd (U Fo Ai) A x := fun x => by
    constructor
    · rintro (h | ⟨j, h⟩)
      · exact .inl (.inl h)
      · by_cases c : j = i
        · simp only [c, if_true] at h; exact .inl (.inr h)
        · simp only [c, if_false] at h; exact .inr ⟨j, h⟩
    · rintro ((h | h) | ⟨j, h⟩)
      · exact .inl h
      · exact .inr ⟨i, by simp only [if_true]; exact h⟩
      · by_cases c : j = i
        · subst c; rw [Ai0] at h; cases h
        · exact .inr ⟨j, by simp only [c, if_false]; exact h⟩
  have ev : vis H' Fo (fun j => if j = i then Ai else A j) = vis H' (U Fo Ai) A := by
    have : Hd Fo (fun j => if j = i then Ai else A j) = Hd (U Fo Ai) A := funext fun x => propext (hd x)
    show hide H' _ = hide H' _
    rw [this]
  refine ⟨⟨by rw [List.length_set]; exact S.len, fun j d e => ?_, fun j b' p' e => ?_, fun j h => ?_, fun j => ?_, fun j k x n hj hk => ?_, fun j x hx z => ?_, fun x z => S.fa x (.inl z), fun j p' e => ?_⟩, ev⟩
  · rcases get_set e with ⟨_, z⟩ | ⟨n, z⟩
    · cases z
    · have := S.va j d z
      show ∃ v, _ ∧ Rep G (vis H' Fo (fun j => if j = i then Ai else A j)) v d
      rw [ev]; exact this
  · show ∃ a, _ ∧ Own G (vis H' Fo (fun j => if j = i then Ai else A j)) H' p' a (if j = i then Ai else A j)
    rw [ev]
    rcases get_set e with ⟨c, z⟩ | ⟨n, z⟩
    · cases z
      subst c
      rw [if_pos rfl]
      exact ⟨a0, hσ, ho⟩
    · rw [if_neg n]
      exact S.ow j b' p' z
  · have n : j ≠ i := fun c => by
      subst c
      exact h b p (List.getElem?_set_self (List.getElem?_eq_some_iff.mp hi).1)
    show (if j = i then Ai else A j) = []
    rw [if_neg n]
    exact S.no j fun b p z => h b p (by rw [List.getElem?_set_ne n.symm]; exact z)
  · show (if j = i then Ai else A j).Nodup
    split
    · exact nd
    · exact S.nd j
  · have hj : x ∈ (if j = i then Ai else A j) := hj
    have hk : x ∈ (if k = i then Ai else A k) := hk
    by_cases c : j = i
    · rw [if_pos c] at hj
      rw [if_neg (fun z => n (c.trans z.symm))] at hk
      exact S.fd k x hk (.inr hj)
    · rw [if_neg c] at hj
      by_cases c2 : k = i
      · rw [if_pos c2] at hk
        exact S.fd j x hj (.inr hk)
      · rw [if_neg c2] at hk
        exact S.dj j k x n hj hk
  · have hx : x ∈ (if j = i then Ai else A j) := hx
    by_cases c : j = i
    · rw [if_pos c] at hx; exact hF x hx z
    · rw [if_neg c] at hx; exact S.fd j x hx (.inl z)
  · rcases get_set e with ⟨c, z⟩ | ⟨n, z⟩
    · cases z
      subst c
      rw [hσ, hb rfl]
    · exact S.ro j p' z
theorem lcO_i {i : Nat} {own : List Nat} {tgt : Tgt} {cond : POpt} {elt : PE} (hids : ∀ i ∈ tgt.ids, i ∈ own) {Q : VK} (h : tE G T cf (.lcO i own tgt cond elt) σ H Q) : tLc (iSeq G.K (tVar i)) (tG G tgt) (tC' G T cf cond) (tE G T cf elt) own σ H Q := by
  obtain ⟨Fo, A, sl, S, h⟩ := h
  rw [evE_lcO] at h
  cases hs : sl[i]? with
  | none => rw [hs] at h; exact h.elim
  | some y =>
    rw [hs] at h
    cases y <;> first | exact h.elim | skip
    rename_i b p
    cases p <;> first | exact h.elim | skip
    rename_i xs
    obtain ⟨⟨hio, hc, hz⟩, h⟩ := if_satR h
    obtain ⟨a, hσ, hA, vs, hv, hr⟩ := S.ow i b _ hs
    obtain ⟨S1, ev1⟩ := S.shut ⟨_, hs⟩
    have ha : a ∈ A i := by rw [hA]; exact List.mem_cons_self
    refine ⟨.ref a, hσ, a, rfl, .inl ⟨⟨vs, SqL.of hv⟩, fun D0 hD => ?_⟩⟩
    have hr1 : Reps G (vis H (U Fo (A i)) (clrA A i)) vs xs := by rw [ev1]; exact hr
    have W : Walks G (Itl G.K a) xs (vis H (U Fo (A i)) (clrA A i)) (fun H2 => ∀ x, (U Fo (A i)) x → H2 x = H x) := by
      have hq : ∀ H2 : Hp, (∀ x, (U Fo (A i)) x → H2 x = H x) → SqL G.K H2 a vs := fun H2 k => SqL.of (by rw [k a (.inr ha)]; exact hv)
      refine ⟨fun j H2 e k l => ?_, fun j H2 e k l => ⟨vs, hq H2 k, by rw [hr1.len]; exact l⟩, fun j H2 y H3 d e k q z => ?_⟩
      · have l' : j < vs.length := by rw [hr1.len]; exact l
        exact ⟨vs, vs[j], hq H2 k, by simp [l']⟩
      · obtain ⟨q1, q2⟩ := q
        subst q1
        refine ⟨Same.refl _, fun P hP e2 => ?_⟩
        obtain ⟨w, w1, w2⟩ := hr1.get z
        have := q2 vs (hq _ k)
        rw [w1] at this
        cases this
        exact w2.mono e2
    refine lc_loop hids S1 hc hz W hD (Rs.sat_bind.mp h) fun H' A' sl' accD accV S' at' rp ev fo k => ?_
    obtain ⟨⟨hc2, hun⟩, k⟩ := if_sat k
    have k : KE G Fo A H σ Q (.fr (.lst accD), (backS (sl.set i .un) sl' own).set i (.ow b (.lst xs))) := k
    have hln : sl'.length = (sl.set i .un).length := by
      have e1 := S'.len
      have e2 := S1.len
      have e3 : (backS (sl.set i .un) sl' own).length = sl'.length := by
        have : ∀ ws : List Nat, (backS (sl.set i .un) sl' ws).length = sl'.length := by
          intro ws
          induction ws with
          | nil => rfl
          | cons w ws ih =>
            unfold backS
            split
            · rw [List.length_set]; exact ih
            · exact ih
        exact this own
      omega
    have hi' : (backS (sl.set i .un) sl' own)[i]? = some .un := by
      rw [backS_get _ _ hln.symm, if_neg hio]
      cases q : sl'[i]? with
      | none => simp [q] at hun
      | some y => cases y <;> first | rfl | (simp [q] at hun)
    have eU : U (U Fo (A i)) [D0] = U (U Fo [D0]) (A i) := by rw [U_app, U_app, U_comm]
    rw [eU] at S' rp ev
    have nF : ¬ Fo D0 := fun z => S.fa D0 z hD
    have nA : D0 ∉ A i := fun z => by
      obtain ⟨o, e⟩ := S.there z
      rw [hD] at e; cases e
    have ho : Own G (vis H' (U (U Fo [D0]) (A i)) A') H' (.lst xs) a (A i) := ⟨hA, vs, by rw [fo a (.inr ha)]; exact hv, (hr1.mono ev)⟩
    obtain ⟨S2, ev2⟩ := S'.reopen (b := b) (p := .lst xs) hi' hσ ho (S.nd i) (fun x hx z => by
      rcases z with z | z
      · exact S.fd i x hx z
      · have : x = D0 := by simpa using z
        exact nA (this ▸ hx)) (fun hb => by
      subst hb
      have := S.ro i _ hs
      rw [hσ] at this
      have e1 : V.ref a = V.ref (Fo.ro i) := Option.some.inj (Option.some.inj this)
      injection e1)
    refine k H' _ [D0] (.ref D0) ⟨S2, by simp, (fun x hx z => by
      have : x = D0 := by simpa using hx
      subst this
      exact nF z), ?_, fun x hx => fo x (.inl hx)⟩ ⟨D0, rfl, rfl, accV, at', ?_⟩
    · rw [ev2, ← ev1]; exact ev
    · rw [ev2]; exact rp
theorem re_lcO (i : Nat) {elt : Expr} {ifs : List Expr} {scope : Scope} {x : Str} {px : Pos} (own : List (Str × Nat)) {tgt : Tgt} {cond : POpt} {pelt : PE} (hc : X.calm = true) (hN : X.N.Nodup) (ok : blkC X.N X.env.scope scope own = true)
    (hg : ∀ (s : Shared) (H : Hp) (C : Addr) (cl : List (Str × Addr)) (fp : List Addr), L2.PG (X.blk s H scope (compEnvC scope cl C X.env) fp) tg (tG G tgt)) (ht : ∀ (s : Shared) (H : Hp) (C : Addr) (cl : List (Str × Addr)) (fp : List Addr), L2.PTs (X.blk s H scope (compEnvC scope cl C X.env) fp) ifs (tC' G T cf cond))
    (he : ∀ (s : Shared) (H : Hp) (C : Addr) (cl : List (Str × Addr)) (fp : List Addr), RE G T cf (X.blk s H scope (compEnvC scope cl C X.env) fp) elt pelt) (hids : ∀ i ∈ tgt.ids, i ∈ own.map (·.2)) (hx : X.N[i]? = some x := by rfl) (hv : Vis X.env.scope x := by first | exact Or.inl rfl | exact Or.inr (Or.inl rfl) | exact Or.inr (Or.inr rfl))
    (hd : (x == ("__debug__" : Str)) = false := by decide) (hcd : (x == ("__classdict__" : Str)) = false := by decide) (hs : ∀ y, foldedSetIterable (.Name x px) X.env y = pure y := by intro _; rfl) (hK : G.K = X.K := by rfl) :
    RE G T cf X (.ListComp elt [⟨tg, .Name x px, ifs, 0⟩] scope pos) (.lcO i (own.map (·.2)) tgt cond pelt) := PE.imp (pe_lc hc hN (pi_seq (pe_var hx hv hd hcd)) (blkOk_by ok) hg ht he hs) fun _ _ _ h => by rw [← hK]; exact lcO_i hids h
end
end Pf

/-! Pf11: statements; defs -/
namespace Pf
open PySem L2
theorem PS.imp {X : Cx} {e : Stmt} {t t' : TS} (h : L2.PS X e t) (k : ∀ D σ H, t' D σ H → t D σ H) : L2.PS X e t' := ⟨fun pins s σ H D I q => h.run pins s σ H D I (k D σ H q)⟩
theorem PSs.imp {X : Cx} {e : List Stmt} {t t' : TS} (h : L2.PSs X e t) (k : ∀ D σ H, t' D σ H → t D σ H) : L2.PSs X e t' := ⟨fun pins s σ H D I q => h.run pins s σ H D I (k D σ H q)⟩
structure Fw (G : Gx) (Fo : Fx) (A : Nat → List Addr) (H : Hp) (A' : Nat → List Addr) (H' : Hp) (σ' : L2.St) (sl' : Sls) : Prop where
  st : SR G Fo H' σ' sl' A'
  ext : Same (vis H Fo A) (vis H' Fo A')
  fo : ∀ x, Fo x → H' x = H x
structure Rt (G : Gx) (Fo : Fx) (A : Nat → List Addr) (H : Hp) (A' : Nat → List Addr) (H' : Hp) (σ' : L2.St) (sl' : Sls) (B : List Addr) (v : V) (r : Rv) : Prop where
  st : SR G (U Fo B) H' σ' sl' A'
  nd : B.Nodup
  out : ∀ x ∈ B, ¬ Fo x
  ext : Same (vis H Fo A) (vis H' (U Fo B) A')
  fo : ∀ x, Fo x → H' x = H x
  res : ResV G (vis H' (U Fo B) A') H' B v r
section
variable (G : Gx) (T : Tab) (cf : CF) (wf : Nat)
abbrev KS (Fo : Fx) (A : Nat → List Addr) (H : Hp) (D : Ends) (q : Fl × Sls) : Prop := match q.1 with
  | .nx => ∀ H' A' σ', Fw G Fo A H A' H' σ' q.2 → D.nx σ' H'
  | .brk => ∀ H' A' σ', Fw G Fo A H A' H' σ' q.2 → D.bk σ' H'
  | .ct => ∀ H' A' σ', Fw G Fo A H A' H' σ' q.2 → D.ct σ' H'
  | .ret r => ∀ H' A' σ' B v, Rt G Fo A H A' H' σ' q.2 B v r → D.rt v H'
def tS (p : PS) : TS := fun D σ H => ∃ Fo A sl, SR G Fo H σ sl A ∧ (evS T cf wf p sl).sat (KS G Fo A H D)
def tSs (p : PSs) : TS := fun D σ H => ∃ Fo A sl, SR G Fo H σ sl A ∧ (evSs T cf wf p sl).sat (KS G Fo A H D)
end
abbrev RS (G : Gx) (T : Tab) (cf : CF) (wf : Nat) (X : Cx) (s : Stmt) (p : PS) : Prop := L2.PS X s (tS G T cf wf p)
abbrev RSs (G : Gx) (T : Tab) (cf : CF) (wf : Nat) (X : Cx) (s : List Stmt) (p : PSs) : Prop := L2.PSs X s (tSs G T cf wf p)
section
variable {G : Gx} {T : Tab} {cf : CF} {wf : Nat} {Fo : Fx} {A A1 A2 A' : Nat → List Addr} {H H1 H2 H' Hs Hs' : Hp} {σ σ1 σ2 : L2.St} {sl sl1 sl2 sl' : Sls} {B B1 B2 B' : List Addr} {v : V} {r : Rv} {vs : List V} {rs : List Rv}
variable {X : Cx} {a b c e o tg it : Expr} {es : List Expr} {pa pb pc pe : PE} {ps : PEs} {pos p apos : Pos} {D : Ends} {st : Stmt} {sts : List Stmt} {p1 : PS} {p2 : PSs}
theorem Fw.refl (S : SR G Fo H σ sl A) : Fw G Fo A H A H σ sl := ⟨S, Same.refl _, fun _ _ => rfl⟩
theorem Fw.trans (a : Fw G Fo A H A1 H1 σ1 sl1) (b : Fw G Fo A1 H1 A2 H2 σ2 sl2) : Fw G Fo A H A2 H2 σ2 sl2 := ⟨b.st, a.ext.trans b.ext, fun x hx => (b.fo x hx).trans (a.fo x hx)⟩
theorem Fw.rt (a : Fw G Fo A H A1 H1 σ1 sl1) (b : Rt G Fo A1 H1 A2 H2 σ2 sl2 B v r) : Rt G Fo A H A2 H2 σ2 sl2 B v r := ⟨b.st, b.nd, b.out, a.ext.trans b.ext, fun x hx => (b.fo x hx).trans (a.fo x hx), b.res⟩
theorem Post.fw (P : Post G Fo A H [] A1 H1 σ sl1) : Fw G Fo A H A1 H1 σ sl1 := ⟨P.sr, by have := P.ext; rw [U_nil] at this; exact this, P.fo⟩
theorem KS.and {q : Fl × Sls} (f : Fw G Fo A H A1 H1 σ1 sl1) (k : KS G Fo A H D q) : KS G Fo A1 H1 D q := by
  obtain ⟨fl, s⟩ := q
  cases fl with
  | nx => exact fun H' A' σ' g => k H' A' σ' (f.trans g)
  | brk => exact fun H' A' σ' g => k H' A' σ' (f.trans g)
  | ct => exact fun H' A' σ' g => k H' A' σ' (f.trans g)
  | ret r => exact fun H' A' σ' B v g => k H' A' σ' B v (f.rt g)
theorem rs_pass : RS G T cf wf X (.Pass pos) .pass := PS.imp ps_pass fun D σ H h => by
  obtain ⟨Fo, A, sl, S, h⟩ := h
  rw [evS] at h
  exact (show KS G Fo A H D (.nx, sl) from h) H A σ (Fw.refl S)
theorem rs_doc {x j pos'} : RS G T cf wf X (.Expr (.Constant (.str x) j pos) pos') .doc := PS.imp ps_doc fun D σ H h => by
  obtain ⟨Fo, A, sl, S, h⟩ := h
  rw [evS] at h
  exact (show KS G Fo A H D (.nx, sl) from h) H A σ (Fw.refl S)
theorem rs_never : RS G T cf wf X st .never := PS.imp ps_never fun D σ H h => by
  obtain ⟨Fo, A, sl, S, h⟩ := h
  rw [evS] at h
  exact h.elim
theorem rs_ex (he : RE G T cf X e pe) (hs : swapsWith e none pos.line X.env = pure false := by rfl) : RS G T cf wf X (.Expr e pos) (.ex pe) := PS.imp (ps_expr he hs) fun D σ H h => by
  obtain ⟨Fo, A, sl, S, h⟩ := h
  rw [evS] at h
  exact ⟨Fo, A, sl, S, Rs.sat_mono (Rs.sat_bind.mp h) fun p k H1 A1 B v P R => (show KS G Fo A H D (.nx, p.2) from k) H1 A1 σ P.opn.1.fw⟩
/-- slot i's own thing is given away -/
theorem SR.take {i : Nat} {p : OP} (S : SR G Fo H σ sl A) (e : sl[i]? = some (Sl.ow true p)) : SR G (U Fo (A i)) H σ (sl.set i .un) (clrA A i) ∧ vis H (U Fo (A i)) (clrA A i) = vis H Fo A ∧ ∃ a, σ[i]? = some (some (.ref a)) ∧ Own G (vis H Fo A) H p a (A i) := by
  have eP : Hd (U Fo (A i)) (clrA A i) = Hd Fo A := funext fun x => propext ⟨fun z => by
    rcases z with (z | z) | ⟨j, z⟩
    · exact .inl z
    · exact .inr ⟨i, z⟩
    · exact .inr ⟨j, (mem_clrA z).1⟩, fun z => by
    rcases z with z | ⟨j, z⟩
    · exact .inl (.inl z)
    · by_cases q : j = i
      · subst q; exact .inl (.inr z)
      · exact .inr ⟨j, by rw [clrA_ne q]; exact z⟩⟩
  refine ⟨⟨by rw [List.length_set]; exact S.len, fun j d e' => ?_, fun j b' p' e' => ?_, fun j h => ?_, fun j => ?_, fun j k x n hx hy => ?_, fun j x hx z => ?_, fun x z => ?_, fun j p' e' => ?_⟩, by unfold vis; rw [eP], S.ow i true p e⟩
  · rcases get_set e' with ⟨z, z'⟩ | ⟨z, z'⟩
    · cases z'
    · rw [eP]; exact S.va j d z'
  · rcases get_set e' with ⟨z, z'⟩ | ⟨z, z'⟩
    · cases z'
    · rw [eP, clrA_ne z]; exact S.ow j b' p' z'
  · by_cases q : j = i
    · subst q; exact clrA_eq
    · rw [clrA_ne q]
      refine S.no j fun b' p' z => h b' p' ?_
      rw [List.getElem?_set_ne (Ne.symm q)]; exact z
  · by_cases q : j = i
    · subst q; rw [clrA_eq]; exact List.nodup_nil
    · rw [clrA_ne q]; exact S.nd j
  · exact S.dj j k x n (mem_clrA hx).1 (mem_clrA hy).1
  · obtain ⟨h1, h2⟩ := mem_clrA hx
    rcases z with z | z
    · exact S.fd j x h1 z
    · exact S.dj j i x h2 h1 z
  · rcases z with z | z
    · exact S.fa x z
    · obtain ⟨o, q⟩ := S.there z
      rw [q]; simp
  · rcases get_set e' with ⟨z, z'⟩ | ⟨z, z'⟩
    · cases z'
    · exact S.ro j p' z'
theorem rs_ret (he : RE G T cf X e pe) : RS G T cf wf X (.Return (some e) pos) (.ret pe) := PS.imp (ps_ret he) fun D σ H h => by
  obtain ⟨Fo, A, sl, S, h⟩ := h
  rw [evS] at h
  refine ⟨Fo, A, sl, S, Rs.sat_mono (Rs.sat_bind.mp h) fun p k H1 A1 B v P R => ?_⟩
  obtain ⟨r, s⟩ := p
  cases r with
  | va d => exact (show KS G Fo A H D (.ret (.va d), s) from k) H1 A1 σ B v ⟨P.st, P.nd, P.out, P.ext, P.fo, R⟩
  | fr q => exact (show KS G Fo A H D (.ret (.fr q), s) from k) H1 A1 σ B v ⟨P.st, P.nd, P.out, P.ext, P.fo, R⟩
  | pr d xs => exact (show KS G Fo A H D (.ret (.pr d xs), s) from k) H1 A1 σ B v ⟨P.st, P.nd, P.out, P.ext, P.fo, R⟩
  | s i =>
    obtain ⟨eB, eσ⟩ := R
    subst eB
    have S1 : SR G Fo H1 σ s A1 := P.sr
    have k : Rs.sat (match s[i]? with
      | some (.ow true q) => Rs.ok ((.ret (.fr q), s.set i .un) : Fl × Sls)
      | some (.va d) => .ok (.ret (.va d), s)
      | _ => .stuck) (KS G Fo A H D) := k
    cases ei : s[i]? with
    | none => rw [ei] at k; exact k.elim
    | some y =>
      rw [ei] at k
      cases y with
      | un => exact k.elim
      | va d =>
        obtain ⟨w, w1, w2⟩ := S1.va i d ei
        rw [eσ] at w1
        have w1 : v = w := by injection w1 with w1; injection w1
        subst w1
        exact (show KS G Fo A H D (.ret (.va d), s) from k) H1 A1 σ [] v ⟨P.st, P.nd, P.out, P.ext, P.fo, rfl, by rw [U_nil]; exact w2⟩
      | ow b q =>
        cases b with
        | false => exact k.elim
        | true =>
          obtain ⟨S2, eV, a, w1, w2⟩ := S1.take ei
          rw [eσ] at w1
          have w1 : v = .ref a := by injection w1 with w1; injection w1
          subst w1
          have eP := P.ext
          rw [U_nil] at eP
          exact (show KS G Fo A H D (.ret (.fr q), s.set i .un) from k) H1 _ σ (A1 i) (.ref a) ⟨S2, S1.nd i, S1.fd i, by rw [eV]; exact eP, P.fo, a, rfl, by rw [eV]; exact w2⟩
theorem rs_retN : RS G T cf wf X (.Return none pos) .retN := PS.imp ps_retN fun D σ H h => by
  obtain ⟨Fo, A, sl, S, h⟩ := h
  rw [evS] at h
  exact (show KS G Fo A H D (.ret (.va .non), sl) from h) H A σ [] .non ⟨by rw [U_nil]; exact S, List.nodup_nil, (fun _ h => absurd h List.not_mem_nil), by rw [U_nil]; exact Same.refl _, fun _ _ => rfl, rfl, rfl⟩
theorem rss_nil : RSs G T cf wf X [] .nil := PSs.imp pss_nil fun D σ H h => by
  obtain ⟨Fo, A, sl, S, h⟩ := h
  rw [evSs] at h
  exact (show KS G Fo A H D (.nx, sl) from h) H A σ (Fw.refl S)
theorem rss_cons (h1 : RS G T cf wf X st p1) (h2 : RSs G T cf wf X sts p2) : RSs G T cf wf X (st :: sts) (.cons p1 p2) := PSs.imp (pss_cons h1 h2) fun D σ H h => by
  obtain ⟨Fo, A, sl, S, h⟩ := h
  rw [evSs] at h
  refine ⟨Fo, A, sl, S, Rs.sat_mono (Rs.sat_bind.mp h) fun q k => ?_⟩
  obtain ⟨fl, s⟩ := q
  cases fl with
  | nx => exact fun H' A' σ' f => ⟨Fo, A', s, f.st, Rs.sat_mono (show (evSs T cf wf p2 s).sat _ from k) fun q k => KS.and f k⟩
  | brk => exact k
  | ct => exact k
  | ret r => exact k
theorem rs_ite {ss1 ss2 : List Stmt} {q1 q2 : PSs} (hc : RT G T cf X c pc) (h1 : RSs G T cf wf X ss1 q1) (h2 : RSs G T cf wf X ss2 q2) : RS G T cf wf X (.If c ss1 ss2 pos) (.ite pc q1 q2) := PS.imp (ps_if hc h1 h2) fun D σ H h => by
  obtain ⟨Fo, A, sl, S, h⟩ := h
  rw [evS] at h
  refine ⟨Fo, A, sl, S, Rs.sat_mono (Rs.sat_bind.mp h) fun q k H1 A1 P => ?_⟩
  show if q.1 = true then _ else _
  by_cases z : q.1 = true
  · rw [if_pos z] at k ⊢
    exact ⟨Fo, A1, q.2, P.sr, Rs.sat_mono k fun q k => KS.and P.fw k⟩
  · rw [if_neg z] at k ⊢
    exact ⟨Fo, A1, q.2, P.sr, Rs.sat_mono k fun q k => KS.and P.fw k⟩
/-! ### names are set -/
theorem asg_i {i : Nat} (h : tS G T cf wf (.asg i pe) D σ H) : tAsg (tE G T cf pe) (gName i) D σ H := by
  obtain ⟨Fo, A, sl, S, h⟩ := h
  rw [evS] at h
  refine ⟨Fo, A, sl, S, Rs.sat_mono (Rs.sat_bind.mp h) fun p k H1 A1 B v P R => ?_⟩
  show D.nx (σ.set i (some v)) H1
  obtain ⟨r, s⟩ := p
  have eP := P.ext
  have setV : ∀ (d : Pf.D) s2 A2, SR G Fo H1 σ s2 A2 → Same (vis H Fo A) (vis H1 Fo A2) → Rep G (vis H1 Fo A2) v d → ((setS s2 i (.va d)).bind fun sl => Rs.ok ((.nx, sl) : Fl × Sls)).sat (KS G Fo A H D) → D.nx (σ.set i (some v)) H1 := fun d s2 A2 S2 ev rp k => by
    obtain ⟨hi, k⟩ := setS_go (Rs.sat_bind.mp k)
    obtain ⟨S3, ev3⟩ := S2.setV hi rp
    exact (show KS G Fo A H D (.nx, s2.set i (.va d)) from k) H1 _ _ ⟨S3, ev.trans ev3, P.fo⟩
  cases r with
  | va d =>
    obtain ⟨P', S', ev⟩ := P.opn
    exact setV d s A1 S' P'.fw.ext (R.2.mono ev) k
  | fr q =>
    obtain ⟨hi, k⟩ := setS_go (Rs.sat_bind.mp k)
    obtain ⟨a, e1, w⟩ := R
    subst e1
    obtain ⟨S3, ev3⟩ := P.st.setO hi P.nd P.out w
    exact (show KS G Fo A H D (.nx, s.set i (.ow true q)) from k) H1 _ _ ⟨S3, P.ext.trans ev3, P.fo⟩
  | pr d xs =>
    obtain ⟨S', ev, op⟩ := P.st.open' P.out
    exact setV (.tup [d, .lst xs]) s A1 S' (P.ext.trans ev) (PrR.rep ev op R) k
  | s j =>
    obtain ⟨d, sl2, A2, P2, S2, rp, k⟩ := settle1_go P R (Rs.sat_bind.mp (show Rs.sat (Rs.bind (Rs.of (settle s (.s j))) _) _ from k))
    exact setV d sl2 A2 S2 P2.fw.ext rp k
theorem rs_asg (i : Nat) {x : Str} {pos' : Pos} (hN : X.N.Nodup) (he : RE G T cf X e pe) (hi : X.N[i]? = some x := by rfl) (hx : Loc X.env.scope x := by first | exact Or.inl rfl | exact Or.inr rfl) (hs : swapsWith e (some (.Name x pos')) pos.line X.env = pure false := by rfl)
    (hf : X.fn x = true ∨ X.env.scope.names.lookup x = some .local := by first | exact .inl rfl | exact .inr rfl | assumption) : RS G T cf wf X (.Assign [.Name x pos'] e pos) (.asg i pe) := PS.imp (ps_set hN hi hx he hs hf) fun D σ H h => asg_i h
theorem rs_asgLc (i : Nat) {y : Str} {py spos : Pos} {elt iter : Expr} {ifs : List Expr} {scope : Scope} (own : List (Str × Nat)) {tgt : Tgt} {pit : PI} {cond : POpt} {pelt : PE} (hc : X.calm = true) (hN : X.N.Nodup)
    (hi : RI G T cf X tg iter pit) (ok : blkC X.N X.env.scope scope own = true)
    (hg : ∀ (s : Shared) (H : Hp) (C : Addr) (cl : List (Str × Addr)) (fp : List Addr), L2.PG (X.blk s H scope (compEnvC scope cl C X.env) fp) tg (tG G tgt)) (ht : ∀ (s : Shared) (H : Hp) (C : Addr) (cl : List (Str × Addr)) (fp : List Addr), L2.PTs (X.blk s H scope (compEnvC scope cl C X.env) fp) ifs (tC' G T cf cond))
    (he : ∀ (s : Shared) (H : Hp) (C : Addr) (cl : List (Str × Addr)) (fp : List Addr), RE G T cf (X.blk s H scope (compEnvC scope cl C X.env) fp) elt pelt) (hids : ∀ i ∈ tgt.ids, i ∈ own.map (·.2)) (hy : X.N[i]? = some y := by rfl) (hyl : X.env.scope.names.lookup y = some .local := by rfl)
    (hk : X.env.scope.kind = .function := by rfl) (hl : (py.line == pos.line) = true := by rfl) (hn : (scope.names.any fun (n, k) => n == y && (k == .local || k == .cell)) = false := by rfl)
    (hs : ∀ x, foldedSetIterable iter X.env x = pure x := by intro _; rfl) :
    RS G T cf wf X (.Assign [.Name y py] (.ListComp elt [⟨tg, iter, ifs, 0⟩] scope pos) spos) (.asg i (.lc (own.map (·.2)) tgt pit cond pelt)) :=
  PS.imp (ps_setLc hc hN hy hyl (sw_true hk hyl hl hn) hi (blkOk_by ok) hg ht he hs) fun D σ H h => lc_i hids (asg_i h)
theorem rs_asgLcO (i j : Nat) {y x : Str} {py px spos : Pos} {elt : Expr} {ifs : List Expr} {scope : Scope} (own : List (Str × Nat)) {tgt : Tgt} {cond : POpt} {pelt : PE} (hc : X.calm = true) (hN : X.N.Nodup) (ok : blkC X.N X.env.scope scope own = true)
    (hg : ∀ (s : Shared) (H : Hp) (C : Addr) (cl : List (Str × Addr)) (fp : List Addr), L2.PG (X.blk s H scope (compEnvC scope cl C X.env) fp) tg (tG G tgt)) (ht : ∀ (s : Shared) (H : Hp) (C : Addr) (cl : List (Str × Addr)) (fp : List Addr), L2.PTs (X.blk s H scope (compEnvC scope cl C X.env) fp) ifs (tC' G T cf cond))
    (he : ∀ (s : Shared) (H : Hp) (C : Addr) (cl : List (Str × Addr)) (fp : List Addr), RE G T cf (X.blk s H scope (compEnvC scope cl C X.env) fp) elt pelt) (hids : ∀ i ∈ tgt.ids, i ∈ own.map (·.2)) (hy : X.N[i]? = some y := by rfl) (hyl : X.env.scope.names.lookup y = some .local := by rfl)
    (hk : X.env.scope.kind = .function := by rfl) (hl : (py.line == pos.line) = true := by rfl) (hn : (scope.names.any fun (n, k) => n == y && (k == .local || k == .cell)) = false := by rfl) (hx : X.N[j]? = some x := by rfl) (hv : Vis X.env.scope x := by first | exact Or.inl rfl | exact Or.inr (Or.inl rfl) | exact Or.inr (Or.inr rfl))
    (hd : (x == ("__debug__" : Str)) = false := by decide) (hcd : (x == ("__classdict__" : Str)) = false := by decide) (hs : ∀ y, foldedSetIterable (.Name x px) X.env y = pure y := by intro _; rfl) (hK : G.K = X.K := by rfl) :
    RS G T cf wf X (.Assign [.Name y py] (.ListComp elt [⟨tg, .Name x px, ifs, 0⟩] scope pos) spos) (.asg i (.lcO j (own.map (·.2)) tgt cond pelt)) :=
  PS.imp (ps_setLc hc hN hy hyl (sw_true hk hyl hl hn) (pi_seq (pe_var hx hv hd hcd)) (blkOk_by ok) hg ht he hs) fun D σ H h => by
    have := asg_i h
    rw [← hK]
    exact lcO_i hids this
theorem rs_asgT {is : List Nat} {tes : List Expr} {tk : Nat} {tpos : Pos} (he : RE G T cf X e pe) (hg : L2.PG X (.Tuple tes tk tpos) (tG G (.many is))) (hs : swapsWithSole [.Tuple tes tk tpos] e pos.line X.env = pure false := by rfl) (hw : swappedStores [.Tuple tes tk tpos] e X.env = pure none := by rfl) :
    RS G T cf wf X (.Assign [.Tuple tes tk tpos] e pos) (.asgT is pe) := PS.imp (ps_asg he hg hs hw) fun D σ H h => by
  obtain ⟨Fo, A, sl, S, h⟩ := h
  rw [evS] at h
  refine ⟨Fo, A, sl, S, Rs.sat_mono (Rs.sat_bind.mp h) fun p k H1 A1 B v P R => ?_⟩
  obtain ⟨d, sl2, A2, P2, S2, rp, k⟩ := settle1_go P R (Rs.sat_bind.mp k)
  cases d <;> first | exact (show False from k).elim | skip
  rename_i ds
  exact ⟨Fo, A2, sl2, .tup ds, S2, rp, Rs.sat_mono (Rs.sat_bind.mp (show Rs.sat (Rs.bind (setAll sl2 is ds) _) _ from k)) fun sl3 k σ' A' S3 ev _ => (show KS G Fo A H D (.nx, sl3) from k) H1 A' σ' ⟨S3, P2.fw.ext.trans ev, P2.fw.fo⟩⟩
theorem aug_i {i : Nat} {op : BOp} {f : Int → Int → Int} (hop : ∀ x y, (match (some (.va (.int x)) : Option Sl), op with
    | some (.va (.int x)), .add => (Rs.ok (x + y) : Rs Int)
    | some (.va (.int x)), .sub => .ok (x - y)
    | _, _ => .stuck) = .ok (f x y)) (h : tS G T cf wf (.aug i op pe) D σ H) : tAug i (tE G T cf pe) (ipI f) D σ H := by
  obtain ⟨Fo, A, sl, S, h⟩ := h
  rw [evS] at h
  have h := Rs.sat_bind.mp h
  have key : ∃ x : Int, sl[i]? = some (.va (.int x)) := by
    cases ev : evE T cf pe sl with
    | stuck => rw [ev] at h; exact h.elim
    | ok p =>
      rw [ev] at h
      obtain ⟨d, _, h⟩ := Rs.of_sat (Rs.sat_bind.mp (show Rs.sat (Rs.bind (Rs.of (view p.2 p.1)) _) _ from h))
      cases d <;> first | exact (show False from h).elim | skip
      rename_i y
      cases ei : sl[i]? with
      | none => simp only [ei] at h; exact (show False from h).elim
      | some z =>
        cases z with
        | un => simp only [ei] at h; exact (show False from h).elim
        | ow _ _ => simp only [ei] at h; exact (show False from h).elim
        | va d => cases d <;> first | exact ⟨_, rfl⟩ | (simp only [ei] at h; exact (show False from h).elim)
  obtain ⟨x, ei⟩ := key
  obtain ⟨w, w1, w2⟩ := S.va i _ ei
  have w2 : w = .int x := w2
  subst w2
  refine ⟨.int x, w1, Fo, A, sl, S, Rs.sat_mono h fun p k H1 A1 B v P R => ?_⟩
  obtain ⟨d, e2, k⟩ := Rs.of_sat (Rs.sat_bind.mp k)
  obtain ⟨P', S', ev⟩ := P.opn
  have rv := R.view P.st e2
  cases d <;> first | exact (show False from k).elim | skip
  rename_i y
  have rv : v = .int y := rv
  refine ⟨x, y, rfl, rv, ?_⟩
  have k2 : ((setS p.2 i (.va (.int (f x y)))).bind fun sl => Rs.ok ((.nx, sl) : Fl × Sls)).sat (KS G Fo A H D) := by
    have k : Rs.sat (match sl[i]?, op with
      | some (.va (.int x)), .add => (setS p.2 i (.va (.int (x + y)))).bind fun sl => Rs.ok ((.nx, sl) : Fl × Sls)
      | some (.va (.int x)), .sub => (setS p.2 i (.va (.int (x - y)))).bind fun sl => .ok (.nx, sl)
      | _, _ => .stuck) (KS G Fo A H D) := k
    rw [ei] at k
    have hx := hop x y
    cases op <;> first | exact (show False from k).elim | skip
    · have hx : x + y = f x y := by injection hx
      rw [← hx]; exact k
    · have hx : x - y = f x y := by injection hx
      rw [← hx]; exact k
  obtain ⟨hi, k3⟩ := setS_go (Rs.sat_bind.mp k2)
  obtain ⟨S3, ev3⟩ := S'.setV (v := .int (f x y)) (d := .int (f x y)) hi rfl
  exact (show KS G Fo A H D (.nx, p.2.set i (.va (.int (f x y)))) from k3) H1 _ _ ⟨S3, P'.fw.ext.trans ev3, P.fo⟩
theorem rs_augAdd (i : Nat) {x : Str} {pos' : Pos} (hN : X.N.Nodup) (he : RE G T cf X e pe) (hi : X.N[i]? = some x := by rfl) (hx : Loc X.env.scope x := by first | exact Or.inl rfl | exact Or.inr rfl)
    (hf : X.fn x = true ∨ X.env.scope.names.lookup x = some .local := by first | exact .inl rfl | exact .inr rfl | assumption) : RS G T cf wf X (.AugAssign (.Name x pos') .Add e pos) (.aug i .add pe) := PS.imp (ps_aug hN hi hx he ip_add hf) fun D σ H h => aug_i (f := fun i j => i + j) (fun _ _ => rfl) h
theorem rs_augSub (i : Nat) {x : Str} {pos' : Pos} (hN : X.N.Nodup) (he : RE G T cf X e pe) (hi : X.N[i]? = some x := by rfl) (hx : Loc X.env.scope x := by first | exact Or.inl rfl | exact Or.inr rfl)
    (hf : X.fn x = true ∨ X.env.scope.names.lookup x = some .local := by first | exact .inl rfl | exact .inr rfl | assumption) : RS G T cf wf X (.AugAssign (.Name x pos') .Sub e pos) (.aug i .sub pe) := PS.imp (ps_aug hN hi hx he ip_sub hf) fun D σ H h => aug_i (f := fun i j => i - j) (fun _ _ => rfl) h
end
end Pf

/-! Pf12: items and fields are set; loops; defs -/
namespace Pf
open PySem L2
section
variable {G : Gx} {T : Tab} {cf : CF} {wf : Nat} {Fo : Fx} {A A1 A2 A' : Nat → List Addr} {H H1 H2 H' Hs Hs' : Hp} {σ σ1 σ2 : L2.St} {sl sl1 sl2 sl' : Sls} {B B1 B2 B' : List Addr} {v : V} {r : Rv} {vs : List V} {rs : List Rv}
variable {X : Cx} {a b c e o tg it : Expr} {es : List Expr} {pa pb pc pe : PE} {ps : PEs} {pos p apos : Pos} {E : Ends} {st : Stmt} {sts : List Stmt} {p1 : PS} {p2 : PSs}
theorem Post.opnR (P : Post G Fo A H (B1 ++ B2) A1 H1 σ sl1) : Post G Fo A H B1 A1 H1 σ sl1 ∧ Same (vis H1 (U Fo (B1 ++ B2)) A1) (vis H1 (U Fo B1) A1) := by
  have st := P.st
  rw [← U_app] at st
  obtain ⟨nd1, nd2, dj⟩ := List.nodup_append.mp P.nd
  obtain ⟨S, ev, _⟩ := st.open' fun x hx z => by
    rcases z with z | z
    · exact P.out x (List.mem_append_right _ hx) z
    · exact dj x z x hx rfl
  rw [U_app] at ev
  exact ⟨⟨S, nd1, fun x hx => P.out x (List.mem_append_left _ hx), P.ext.trans ev, P.fo⟩, ev⟩
theorem rs_setix {tpos : Pos} (ho : RE G T cf X a pa) (hb : RE G T cf X b pb) (he : RE G T cf X e pe) (hs : swapsWithSole [.Subscript a b tpos] e pos.line X.env = pure false := by rfl) (hw : swappedStores [.Subscript a b tpos] e X.env = pure none := by rfl)
    (hst : ∀ v, assign (.Subscript a b tpos) X.env v = (do
      let ov ← holding [v] (eval a X.env)
      let iv ← holding [v, ov] (eval b X.env)
      standAt tpos
      holding [v, ov, iv] (setItem ov iv v)
      release [v, ov, iv] []) := by intro _; rfl) (h1 : (assignEach [.Subscript a b tpos] X.env).map (·.2) = [assign (.Subscript a b tpos) X.env] := by rfl) :
    RS G T cf wf X (.Assign [.Subscript a b tpos] e pos) (.setix pa pb pe) := PS.imp (ps_asg he (pg_sub ho hb set_list hst) hs hw h1) fun D σ H h => by
  obtain ⟨Fo, A, sl, S, h⟩ := h
  rw [evS] at h
  refine ⟨Fo, A, sl, S, Rs.sat_mono (Rs.sat_bind.mp h) fun p h H1 A1 B1 v P1 R1 => ⟨U Fo B1, A1, p.2, P1.st, Rs.sat_mono (Rs.sat_bind.mp h) fun o h H2 A2 B2 x P2 R2 => ?_⟩⟩
  have P12 := P1.trans P2
  have R1' := R1.later P2
  rw [U_app] at R1' R2
  refine ⟨U Fo (B1 ++ B2), A2, o.2, P12.st, Rs.sat_mono (Rs.sat_bind.mp h) fun q h H3 A3 B3 y P3 R3 => ?_⟩
  have P := P12.trans P3
  have R2' : RvR G (vis H3 (U (U Fo (B1 ++ B2)) B3) A3) H3 σ B2 x o.1 := R2.mono P3.ext fun z hz => P3.fo z (.inr (List.mem_append_right _ hz))
  have R1'' : RvR G (vis H3 (U (U Fo (B1 ++ B2)) B3) A3) H3 σ B1 v p.1 := R1'.mono P3.ext fun z hz => P3.fo z (.inr (List.mem_append_left _ hz))
  rw [U_app] at R1'' R2' R3
  have P' := P
  rw [List.append_assoc] at P'
  obtain ⟨P4, ev4⟩ := P'.opnR
  rw [← List.append_assoc] at ev4
  obtain ⟨z, ez, h⟩ := Rs.of_sat (Rs.sat_bind.mp h)
  obtain ⟨d, sl5⟩ := z
  obtain ⟨A5, S5, ev5, rp⟩ := (RvR.same ev4 R1'').settle P4.st P4.out ez
  have P5 := P4.settled S5 ev5
  obtain ⟨xs, ex, h⟩ := Rs.of_sat (Rs.sat_bind.mp h)
  obtain ⟨k, ek, h⟩ := Rs.of_sat (Rs.sat_bind.mp h)
  have ek' : view q.2 q.1 = some k := ((settle_view ez).2 q.1).symm.trans ek
  have rk := R3.view P.st ek'
  obtain ⟨i, ei⟩ : ∃ i, k = .int i := by
    cases k <;> first | exact ⟨_, rfl⟩ | exact (show False from h).elim
  subst ei
  have rk : y = .int i := rk
  obtain ⟨j, ej, h⟩ := Rs.of_sat (Rs.sat_bind.mp h)
  obtain ⟨o1, o2⟩ := o
  cases o1 with
  | va _ => cases ex
  | fr _ => cases ex
  | pr _ _ => cases ex
  | s n =>
    simp only [ownL] at ex
    cases en : sl5[n]? with
    | none => rw [en] at ex; cases ex
    | some w =>
      rw [en] at ex
      cases w <;> first | (cases ex; done) | skip
      rename_i b pp
      cases pp <;> first | (cases ex; done) | skip
      cases ex
      obtain ⟨a, w1, hA, us, hH, rpu⟩ := S5.ow n b _ en
      have w3 := R2'.2
      rw [w1] at w3
      have w3 : x = .ref a := by injection w3 with w3; injection w3 with w3; exact w3.symm
      have h : KS G Fo A H D (.nx, setL sl5 (xs.set j d) (.s n)) := h
      have eS : setL sl5 (xs.set j d) (.s n) = sl5.set n (.ow b (.lst (xs.set j d))) := by simp only [setL, en]
      rw [eS] at h
      obtain ⟨S6, ev6, fo6⟩ := chg (us := us) S5 en w1 hA (rpu.set rp j)
      exact ⟨a, us, i, j, w3, rk, hH, by rw [rpu.len]; exact ej, h _ _ σ ⟨S6, P5.fw.ext.trans ev6, fun z hz => (fo6 z hz).trans (P5.fo z hz)⟩⟩
theorem OwnF.len : ∀ {fs : List (Nat × F)} {gs : List (Str × V)} {B : List Addr}, OwnF G Hs H fs gs B → gs.length = fs.length := fun h => by
  have := congrArg List.length h.names
  simpa using this
theorem ownF_put {f : Nat} {v : V} {d : D} (k : Rep G Hs v d) : ∀ {fs : List (Nat × F)} {gs : List (Str × V)} {B : List Addr}, OwnF G Hs H fs gs B → ∃ B', List.Sublist B' B ∧ OwnF G Hs H (putA f (.fz d) fs) (putF (G.FN f) v gs) B'
  | [], gs, B, h => by
    obtain ⟨e1, e2⟩ := h
    subst e1 e2
    exact ⟨[], List.Sublist.refl _, v, [], rfl, k, rfl, rfl⟩
  | (g, x) :: fs, gs, B, h => by
    by_cases q : f = g
    · subst q
      cases x with
      | fz d0 =>
        obtain ⟨w, r, e1, e2, e3⟩ := h
        subst e1
        refine ⟨B, List.Sublist.refl _, ?_⟩
        unfold putA putF
        rw [if_pos rfl, if_pos rfl]
        exact ⟨v, r, rfl, k, e3⟩
      | ol ds =>
        obtain ⟨l, us, r, B', e1, e2, e3, e4, e5⟩ := h
        subst e1 e2
        refine ⟨B', List.sublist_cons_self _ _, ?_⟩
        unfold putA putF
        rw [if_pos rfl, if_pos rfl]
        exact ⟨v, r, rfl, k, e5⟩
    · have q2 : ¬ G.FN g = G.FN f := fun z => q (G.fi _ _ z.symm)
      cases x with
      | fz d0 =>
        obtain ⟨w, r, e1, e2, e3⟩ := h
        subst e1
        obtain ⟨B', z1, z2⟩ := ownF_put k e3
        refine ⟨B', z1, ?_⟩
        unfold putA putF
        rw [if_neg q, if_neg q2]
        exact ⟨w, _, rfl, e2, z2⟩
      | ol ds =>
        obtain ⟨l, us, r, B0, e1, e2, e3, e4, e5⟩ := h
        subst e1 e2
        obtain ⟨B', z1, z2⟩ := ownF_put k e5
        refine ⟨l :: B', List.Sublist.cons₂ _ z1, ?_⟩
        unfold putA putF
        rw [if_neg q, if_neg q2]
        exact ⟨l, us, _, B', rfl, rfl, e3, e4, z2⟩
theorem rs_setfld (i : Nat) {ci f : Nat} {fn x : Str} {px pos' : Pos} (he : RE G T cf X e pe) (hc : Cls X.K (G.CA ci)) (hn : NoAttr X.K (G.CA ci) fn) (hf : G.FN f = fn) (hN : X.N[i]? = some x := by rfl) (hv : Vis X.env.scope x := by first | exact Or.inl rfl | exact Or.inr (Or.inl rfl) | exact Or.inr (Or.inr rfl))
    (hd : (x == ("__debug__" : Str)) = false := by decide) (hcd : (x == ("__classdict__" : Str)) = false := by decide) (hs : swapsWith e (some (.Attribute (.Name x px) fn pos')) pos.line X.env = pure false := by rfl) :
    RS G T cf wf X (.Assign [.Attribute (.Name x px) fn pos'] e pos) (.setfld i ci f pe) := PS.imp (ps_fld (pe_var hN hv hd hcd) he hs) fun D σ H h => by
  obtain ⟨Fo, A, sl, S, h⟩ := h
  rw [evS] at h
  refine ⟨Fo, A, sl, S, Rs.sat_mono (Rs.sat_bind.mp h) fun p h H1 A1 B1 v P1 R1 => ?_⟩
  obtain ⟨d, sl2, A2, P2, S2, rp, h⟩ := settle1_go P1 R1 (Rs.sat_bind.mp h)
  have h : Rs.sat (match sl2[i]? with
      | some (.ow b (.obj c' fs)) => if c' = ci ∧ fs.length < 1000 then Rs.ok ((.nx, sl2.set i (.ow b (.obj ci (putA f (.fz d) fs)))) : Fl × Sls) else .stuck
      | _ => .stuck) (KS G Fo A H D) := h
  cases ei : sl2[i]? with
  | none => rw [ei] at h; exact h.elim
  | some w =>
    rw [ei] at h
    cases w <;> first | exact (show False from h).elim | skip
    rename_i b pp
    cases pp <;> first | exact (show False from h).elim | skip
    rename_i c' fs
    obtain ⟨⟨z1, z2⟩, h2⟩ := if_sat h
    clear h
    subst z1
    obtain ⟨a, w1, dx, gs, B', hA, hH, ow⟩ := S2.ow i b _ ei
    obtain ⟨B'', sb, ow2⟩ := ownF_put (f := f) rp ow
    have ndA := S2.nd i
    rw [hA] at ndA
    have nda : a ∉ B' := (List.nodup_cons.mp ndA).1
    have ndB : (a :: B'').Nodup := List.Nodup.sublist (List.Sublist.cons₂ _ sb) ndA
    have kk : ∀ y o, y ∉ A2 i → H1 y = some o → upd H1 a (.ins (G.CA c') dx (putF (G.FN f) v gs)) y = some o := fun y o n q => by
      rw [upd_ne fun z => n (by rw [hA, z]; exact List.mem_cons_self)]
      exact q
    have hB : ∀ y ∈ a :: B'', y ∈ A2 i ∨ H1 y = none := fun y hy => .inl (by
      rw [hA]
      rcases List.mem_cons.mp hy with z | z
      · rw [z]; exact List.mem_cons_self
      · exact List.mem_cons_of_mem _ (sb.subset z))
    have ev : Same (vis H1 Fo A2) (vis (upd H1 a (.ins (G.CA c') dx (putF (G.FN f) v gs))) Fo (putB A2 i (a :: B''))) := hide_same fun y o n q => ⟨fun z => by
      rcases z with z | ⟨j, z⟩
      · exact n (.inl z)
      · rcases mem_putB z with ⟨_, z⟩ | ⟨_, z⟩
        · rcases hB y z with z | z
          · exact n (.inr ⟨i, z⟩)
          · rw [z] at q; cases q
        · exact n (.inr ⟨j, z⟩), kk y o (fun z => n (.inr ⟨i, z⟩)) q⟩
    obtain ⟨S3, _, fo3⟩ := S2.change (p' := .obj c' (putA f (.fz d) fs)) ei w1 ndB hB kk ⟨dx, _, B'', rfl, upd_same, ow2.mono ev fun y hy => upd_ne fun z => nda (by rw [← z]; exact sb.subset hy)⟩
    refine ⟨.ref a, w1, a, _, dx, gs, rfl, hH, hc, hn, by rw [ow.len]; exact z2, ?_⟩
    rw [← hf]
    exact (show KS G Fo A H D (.nx, sl2.set i (.ow b (.obj c' (putA f (.fz d) fs)))) from h2) _ _ σ ⟨S3, P2.fw.ext.trans ev, fun y hy => (fo3 y hy).trans (P2.fo y hy)⟩
/-! ### loops -/
theorem for_i {tgt : Tgt} {pit : PI} (h : tS G T cf wf (.for tgt pit p2) E σ H) : tFor (tI G T cf pit) (tG G tgt) (tSs G T cf wf p2) E σ H := by
  obtain ⟨Fo, A, sl, S, h⟩ := h
  rw [evS] at h
  refine ⟨Fo, A, sl, S, Rs.sat_mono (Rs.sat_bind.mp h) fun p h J H1 A1 P W => ?_⟩
  obtain ⟨ds, sl1⟩ := p
  have h : (forLoop (fun d sl => (giveT tgt d sl).bind fun sl => evSs T cf wf p2 sl) ds sl1).sat (KS G Fo A1 H1 E) := Rs.sat_mono h fun q k => KS.and P.fw k
  refine ⟨fun i m σ H => m = ds.length - i ∧ i ≤ ds.length ∧ ∃ A sl, Fw G Fo A1 H1 A H σ sl ∧ (forLoop (fun d sl => (giveT tgt d sl).bind fun sl => evSs T cf wf p2 sl) (ds.drop i) sl).sat (KS G Fo A1 H1 E), ⟨_, rfl, Nat.zero_le _, A1, sl1, Fw.refl P.sr, h⟩, ?_⟩
  rintro i m σ H ⟨rfl, hi, A, sl, f, go⟩
  have eH : Same (vis H1 Fo A1) H := f.ext.trans hide_sub
  by_cases hlt : i < ds.length
  · refine .inr ⟨W.go i H eH f.fo hlt, fun σ' H' => ∃ A sl, Fw G Fo A1 H1 A H' σ' sl ∧ (forLoop (fun d sl => (giveT tgt d sl).bind fun sl => evSs T cf wf p2 sl) (ds.drop (i + 1)) sl).sat (KS G Fo A1 H1 E), fun σ' H' q => ⟨ds.length - (i + 1), by omega, rfl, hlt, q⟩, fun x H' yl => ?_⟩
    have ed : ds[i]? = some ds[i] := by simp [hlt]
    obtain ⟨gr, rp⟩ := W.yld i H x H' ds[i] eH f.fo yl ed
    rw [List.drop_eq_getElem_cons hlt] at go
    unfold forLoop at go
    have go := Rs.sat_bind.mp (Rs.sat_bind.mp go)
    have P0 := f.st.grow gr List.nodup_nil fun _ h => absurd h List.not_mem_nil
    have f0 := f.trans P0.fw
    have rx := rp (Hd Fo A) (fun y hy => by
      rcases hy with hy | ⟨j, hy⟩
      · exact f.st.fa y hy
      · obtain ⟨o, e⟩ := f.st.there hy
        rw [e]; simp) f.ext
    refine ⟨Fo, A, sl, ds[i], P0.sr, rx, Rs.sat_mono go fun sl2 go σ2 A2 S2 ev2 _ => ⟨Fo, A2, sl2, S2, Rs.sat_mono go fun q k => ?_⟩⟩
    have f2 : Fw G Fo A1 H1 A2 H' σ2 sl2 := ⟨S2, f0.ext.trans ev2, f0.fo⟩
    obtain ⟨fl, s⟩ := q
    cases fl with
    | nx => exact fun H3 A3 σ3 f3 => ⟨A3, s, f2.trans f3, k⟩
    | ct => exact fun H3 A3 σ3 f3 => ⟨A3, s, f2.trans f3, k⟩
    | brk => exact fun H3 A3 σ3 f3 => (show KS G Fo A1 H1 E (.nx, s) from k) H3 A3 σ3 (f2.trans f3)
    | ret r => exact fun H3 A3 σ3 B v f3 => (show KS G Fo A1 H1 E (.ret r, s) from k) H3 A3 σ3 B v (f2.rt f3)
  · have e : i = ds.length := by omega
    subst e
    rw [List.drop_length] at go
    exact .inl ⟨W.stop _ H eH f.fo (Nat.le_refl _), (show KS G Fo A1 H1 E (.nx, sl) from go) H A σ f⟩
theorem rs_for {body : List Stmt} {tgt : Tgt} {pit : PI} (hp : PassesOwn (model X.prog X.w) X.A X.env X.xe) (hc : X.calm = true) (hi : RI G T cf X tg it pit) (hg : L2.PG X tg (tG G tgt)) (hb : RSs G T cf wf X body p2) (hs : ∀ x, foldedSetIterable it X.env x = pure x := by intro _; rfl) :
    RS G T cf wf X (.For tg it body [] pos) (.for tgt pit p2) := PS.imp (ps_for hp hc hi hg hb hs) fun D σ H h => for_i h
theorem whl_i {n : Nat} (Fo : Fx) (A1 : Nat → List Addr) (H1 : Hp) : ∀ n, ∀ A H σ sl, Fw G Fo A1 H1 A H σ sl → (whlLoop (fun sl => evT T cf pc sl) (fun sl => evSs T cf wf p2 sl) n sl).sat (KS G Fo A1 H1 E) → 
    tT G T cf pc σ H fun b H2 => if b = true then ∃ N : L2.St → Hp → Prop, (∀ σ' H', N σ' H' → ∃ m, m < n ∧ ∃ A sl, Fw G Fo A1 H1 A H' σ' sl ∧ (whlLoop (fun sl => evT T cf pc sl) (fun sl => evSs T cf wf p2 sl) m sl).sat (KS G Fo A1 H1 E)) ∧ tSs G T cf wf p2 { E with nx := N, ct := N, bk := E.nx } σ H2 else E.nx σ H2 := by
  intro n A H σ sl f h
  cases n with
  | zero => exact h.elim
  | succ n =>
    unfold whlLoop at h
    refine ⟨Fo, A, sl, f.st, Rs.sat_mono (Rs.sat_bind.mp h) fun b k H2 A2 P => ?_⟩
    show if b.1 = true then _ else _
    by_cases z : b.1 = true
    · rw [if_pos z] at k ⊢
      refine ⟨fun σ' H' => ∃ A sl, Fw G Fo A1 H1 A H' σ' sl ∧ (whlLoop (fun sl => evT T cf pc sl) (fun sl => evSs T cf wf p2 sl) n sl).sat (KS G Fo A1 H1 E), fun σ' H' q => ⟨n, Nat.lt_succ_self n, q⟩, Fo, A2, b.2, P.sr, Rs.sat_mono (Rs.sat_bind.mp k) fun q k => ?_⟩
      have f2 := f.trans P.fw
      obtain ⟨fl, s⟩ := q
      cases fl with
      | nx => exact fun H3 A3 σ3 f3 => ⟨A3, s, f2.trans f3, k⟩
      | ct => exact fun H3 A3 σ3 f3 => ⟨A3, s, f2.trans f3, k⟩
      | brk => exact fun H3 A3 σ3 f3 => (show KS G Fo A1 H1 E (.nx, s) from k) H3 A3 σ3 (f2.trans f3)
      | ret r => exact fun H3 A3 σ3 B v f3 => (show KS G Fo A1 H1 E (.ret r, s) from k) H3 A3 σ3 B v (f2.rt f3)
    · rw [if_neg z] at k ⊢
      exact (show KS G Fo A1 H1 E (.nx, b.2) from k) H2 A2 σ (f.trans P.fw)
theorem rs_whl {body : List Stmt} (hp : PassesOwn (model X.prog X.w) X.A X.env X.xe) (hc : RT G T cf X c pc) (hb : RSs G T cf wf X body p2) : RS G T cf wf X (.While c body [] pos) (.whl pc p2) := PS.imp (ps_while hp hc hb) fun D σ H h => by
  obtain ⟨Fo, A, sl, S, h⟩ := h
  rw [evS] at h
  refine ⟨fun m σ' H' => ∃ A' sl', Fw G Fo A H A' H' σ' sl' ∧ (whlLoop (fun sl => evT T cf pc sl) (fun sl => evSs T cf wf p2 sl) m sl').sat (KS G Fo A H D), ⟨wf, A, sl, Fw.refl S, h⟩, fun m σ' H' ⟨A', sl', f, k⟩ => ?_⟩
  exact whl_i (n := 0) Fo A H m A' H' σ' sl' f k
/-! ### defs -/
theorem SR.ext (S : SR G Fo H (vs.map some) sl A) (n : Nat) : SR G Fo H (vs.map some ++ List.replicate n none) (sl ++ List.replicate n .un) A := by
  have hl : vs.length = sl.length := by have := S.len; simpa using this
  have g : ∀ (j : Nat) x, (sl ++ List.replicate n Sl.un)[j]? = some x → x = .un ∨ sl[j]? = some x := fun j x e => by
    by_cases l : j < sl.length
    · rw [List.getElem?_append_left l] at e; exact .inr e
    · rw [List.getElem?_append_right (Nat.le_of_not_lt l), List.getElem?_replicate] at e
      split at e
      · exact .inl (Option.some.inj e).symm
      · cases e
  have gσ : ∀ (j : Nat) x, sl[j]? = some x → (vs.map some ++ List.replicate n none)[j]? = (vs.map some)[j]? := fun j x e => List.getElem?_append_left (by rw [List.length_map, hl]; exact (List.getElem?_eq_some_iff.mp e).1)
  refine ⟨by simp [hl], fun j d e => ?_, fun j b p e => ?_, fun j h => S.no j fun b p z => h b p ?_, S.nd, S.dj, S.fd, S.fa, fun j p e => ?_⟩
  · rcases g j _ e with z | z
    · cases z
    · rw [gσ j _ z]; exact S.va j d z
  · rcases g j _ e with z | z
    · cases z
    · rw [gσ j _ z]; exact S.ow j b p z
  · rw [List.getElem?_append_left (List.getElem?_eq_some_iff.mp z).1]; exact z
  · rcases g j _ e with z | z
    · cases z
    · rw [gσ j _ z]; exact S.ro j p z
theorem endIo_go {io : Option Nat} {Q : Option OP → Prop} (h : (endIo io sl).sat Q) : match io with
    | none => Q none
    | some k => ∃ p, sl[k]? = some (.ow false p) ∧ Q (some p) := by
  cases io with
  | none => exact h
  | some k =>
    have h : Rs.sat (match sl[k]? with
      | some (.ow false p) => .ok (some p)
      | _ => .stuck) Q := h
    cases e : sl[k]? with
    | none => rw [e] at h; exact h.elim
    | some x =>
      rw [e] at h
      cases x with
      | un => exact h.elim
      | va _ => exact h.elim
      | ow b p =>
        cases b with
        | true => exact h.elim
        | false => exact ⟨p, e, h⟩
/-- what is known when a body has ended -/
theorem end_go {io : Option Nat} {as : List Sl} {q : Rv} {σ' : L2.St} (S : SR G Fo H (vs.map some) as A) (hio : (endIo io as).sat fun _ => True) (R : Rt G Fo A H A' H' σ' sl' B v q) {Q : Option OP → Prop} (h : (endIo io sl').sat Q) :
    ∃ p C, PostC G Fo H vs A io (q, p) H' B C v ∧ Q p := by
  have h1 := endIo_go hio
  have h2 := endIo_go h
  have mk : ∀ (C : List Addr), (∀ x ∈ C, ∃ j, x ∈ A' j) → C.Nodup → ∀ p, (match io, p with
    | none, none => C = []
    | some k, some p => ∃ a, vs[k]? = some (.ref a) ∧ Own G (vis H' (U Fo B) A') H' p a C
    | _, _ => False) → PostC G Fo H vs A io (q, p) H' B C v := fun C hC nd p hp => by
    have sub : Same (vis H' (U Fo B) A') (hide H' (U Fo (B ++ C)).fo) := hide_mono fun x z => by
      rcases z with z | z
      · exact .inl (.inl z)
      · rcases List.mem_append.mp z with z | z
        · exact .inl (.inr z)
        · exact .inr (hC x z)
    refine ⟨List.nodup_append.mpr ⟨R.nd, nd, fun x hx y hy e => ?_⟩, fun x hx z => ?_, R.ext.trans sub, R.fo, ?_, ?_⟩
    · subst e
      obtain ⟨j, hj⟩ := hC x hy
      exact R.st.fd j x hj (.inr hx)
    · rcases List.mem_append.mp hx with w | w
      · exact R.out x w z
      · obtain ⟨j, hj⟩ := hC x w
        exact R.st.fd j x hj (.inl z)
    · cases q with
      | va d => exact ⟨R.res.1, R.res.2.mono sub⟩
      | fr p =>
        obtain ⟨a, e1, o⟩ := R.res
        exact ⟨a, e1, o.mono sub fun _ _ => rfl⟩
      | pr d xs => exact PrR.mono sub (fun _ _ => rfl) R.res
      | s i => exact R.res.elim
    · cases io with
      | none => cases p with
        | none => exact hp
        | some _ => exact hp.elim
      | some k => cases p with
        | none => exact hp.elim
        | some p =>
          obtain ⟨a, e1, o⟩ := hp
          exact ⟨a, e1, o.mono sub fun _ _ => rfl⟩
  cases io with
  | none => exact ⟨none, [], mk [] (fun _ h => absurd h List.not_mem_nil) List.nodup_nil none rfl, h2⟩
  | some k =>
    obtain ⟨p0, e0, _⟩ := h1
    obtain ⟨p1, e1, hQ⟩ := h2
    obtain ⟨a, w1, w2⟩ := R.st.ow k false p1 e1
    have w3 := R.st.ro k p1 e1
    rw [w1] at w3
    have w3 : a = Fo.ro k := by injection w3 with w3; injection w3 with w3; injection w3
    have w4 := S.ro k p0 e0
    rw [List.getElem?_map] at w4
    have w5 : vs[k]? = some (.ref a) := by
      cases z : vs[k]? with
      | none => rw [z] at w4; cases w4
      | some u =>
        rw [z] at w4
        have : some u = some (V.ref (Fo.ro k)) := Option.some.inj w4
        rw [this, ← w3]
    exact ⟨some p1, A' k, mk (A' k) (fun x hx => ⟨k, hx⟩) (R.st.nd k) (some p1) ⟨a, w5, w2⟩, hQ⟩
end
theorem fn_go {P : Program} {w : World} {K : PySem.W.Frag} {mg : Str → Option Value} {base : Heap} {G : Gx} {T : Tab} {pr : Nat → CF} {wf n k f : Nat} {d : PDef} (hT : T f = some d) (hown : d.own = true) {x qual : Str} {st : Stmt} {fa : Addr} {fd : FuncData} {N ps : List Str}
    (F : Fun K x qual st fa fd) (S : FnScope N ps (defScope st)) (hp : ps.length = d.np) (hN : N.length = d.ns)
    (body : ∀ (cdv : Value) (A : Around) (outer : List Env) (s : Shared) (H : Hp) (E : XK), Room k (A.deeper (PyProof.Rows.envOfC qual (defScope st) s.heap.objs.size fa cdv)) →
      RSs G T (evF T pr wf n) wf (cxOf CX0 P w K mg base N qual (defScope st) fa cdv A outer s H E).nox (defBody st) d.body) :
    FnOk P w K mg base CX0 (k + 1) fa fd ps (spI G (evF T pr wf (n + 1)) (ioOf T f) f) := by
  have hio : ioOf T f = d.io.findIdx? id := by unfold ioOf; rw [hT]; rfl
  have open' : ∀ as {Q : Rv × Option OP → Prop}, (evF T pr wf (n + 1) f as).sat Q → as.length = d.np ∧ ((endIo (d.io.findIdx? id) as).bind fun _ => (evSs T (evF T pr wf n) wf d.body (as ++ List.replicate (d.ns - d.np) .un)).bind fun q => (endIo (d.io.findIdx? id) q.2).bind fun p => (match q.1 with
          | .nx => .ok (.va .non, p)
          | .ret r => .ok (r, p)
          | _ => .stuck) : Rs (Rv × Option OP)).sat Q := fun as Q h => by
    rw [evF, hT] at h
    obtain ⟨z, h⟩ := if_satR (show (if _ then _ else _ : Rs (Rv × Option OP)).sat Q from h)
    rw [if_pos hown] at h
    exact ⟨z, h⟩
  refine F.ok S (fun vs H Q E h => ?_) (fun cdv A outer s H vs Q E hr h => ?_)
  · obtain ⟨Fo, as, A, S0, h⟩ := h
    have := S0.len
    rw [List.length_map, (open' as h).1] at this
    rw [this, hp]
  · obtain ⟨Fo, as, A0, S0, h⟩ := h
    refine ⟨_, body cdv A outer s H E hr, ?_⟩
    obtain ⟨hl, h⟩ := open' as h
    have hv : vs.length = d.np := by have := S0.len; rw [List.length_map, hl] at this; exact this
    have eS : L2.start N vs = vs.map some ++ List.replicate (d.ns - d.np) none := by unfold L2.start; rw [hN, hv]
    rw [eS]
    have h := Rs.sat_bind.mp h
    have hio0 : (endIo (d.io.findIdx? id) as).sat fun _ => True := Rs.sat_mono h fun _ _ => trivial
    have h : (evSs T (evF T pr wf n) wf d.body (as ++ List.replicate (d.ns - d.np) .un)).sat fun q => ((endIo (d.io.findIdx? id) q.2).bind fun p => (match q.1 with
          | .nx => .ok (.va .non, p)
          | .ret r => .ok (r, p)
          | _ => .stuck) : Rs (Rv × Option OP)).sat fun q => ∀ H' B C v, PostC G Fo H vs A0 (ioOf T f) q H' B C v → Q v H' := by
      cases z : endIo (d.io.findIdx? id) as with
      | stuck => rw [z] at h; exact h.elim
      | ok u => rw [z] at h; exact Rs.sat_bind.mp (show Rs.sat (Rs.bind (evSs T (evF T pr wf n) wf d.body _) _) _ from h)
    refine ⟨Fo, A0, _, S0.ext _, Rs.sat_mono h fun q k => ?_⟩
    obtain ⟨fl, sl'⟩ := q
    have k := Rs.sat_bind.mp k
    rw [hio] at k
    cases fl with
    | nx =>
      intro H' A' σ' f'
      obtain ⟨p, C, P, hQ⟩ := end_go (B := []) (v := .non) (q := .va .non) S0 hio0 ⟨by rw [U_nil]; exact f'.st, List.nodup_nil, (fun _ h => absurd h List.not_mem_nil), by rw [U_nil]; exact f'.ext, f'.fo, rfl, rfl⟩ k
      exact (show ∀ H' B C v, PostC G Fo H vs A0 _ (.va .non, p) H' B C v → Q v H' from hQ) H' [] C .non P
    | brk =>
      cases z : endIo (d.io.findIdx? id) sl' with
      | stuck => rw [z] at k; exact k.elim
      | ok u => rw [z] at k; exact k.elim
    | ct =>
      cases z : endIo (d.io.findIdx? id) sl' with
      | stuck => rw [z] at k; exact k.elim
      | ok u => rw [z] at k; exact k.elim
    | ret r =>
      intro H' A' σ' B v R
      obtain ⟨p, C, P, hQ⟩ := end_go S0 hio0 R k
      exact (show ∀ H' B C v, PostC G Fo H vs A0 _ (r, p) H' B C v → Q v H' from hQ) H' B C v P
theorem fn_zero {P : Program} {w : World} {K : PySem.W.Frag} {mg : Str → Option Value} {base : Heap} {G : Gx} {T : Tab} {pr : Nat → CF} {wf k f : Nat} {x qual : Str} {st : Stmt} {fa : Addr} {fd : FuncData} {N ps : List Str} (F : Fun K x qual st fa fd) (S : FnScope N ps (defScope st)) :
    FnOk P w K mg base CX0 (k + 1) fa fd ps (spI G (evF T pr wf 0) (ioOf T f) f) := by
  refine F.ok S (fun vs H Q E h => ?_) (fun cdv A outer s H vs Q E hr h => ?_)
  · obtain ⟨Fo, as, A, S0, h⟩ := h
    rw [evF] at h
    exact h.elim
  · obtain ⟨Fo, as, A, S0, h⟩ := h
    rw [evF] at h
    exact h.elim
end Pf

/-! Pf13: facts of the built-in names; names of fields -/
namespace Pf
open PySem L2
theorem bt_len : bootBuiltins (Bi.nm .len) = some (.builtin "len") := by decide +kernel
theorem bt_abs : bootBuiltins (Bi.nm .abs) = some (.builtin "abs") := by decide +kernel
theorem bt_int : bootBuiltins (Bi.nm .int) = some (.type "int") := by decide +kernel
theorem bt_list : bootBuiltins (Bi.nm .list) = some (.type "list") := by decide +kernel
theorem bt_tuple : bootBuiltins (Bi.nm .tuple) = some (.type "tuple") := by decide +kernel
theorem bt_sum : bootBuiltins (Bi.nm .sum) = some (.builtin "sum") := by decide +kernel
theorem bt_max1 : bootBuiltins (Bi.nm .max1) = some (.builtin "max") := by decide +kernel
theorem bt_max2 : bootBuiltins (Bi.nm .max2) = some (.builtin "max") := by decide +kernel
theorem bt_min2 : bootBuiltins (Bi.nm .min2) = some (.builtin "min") := by decide +kernel
theorem bt_all : bootBuiltins (Bi.nm .all) = some (.builtin "all") := by decide +kernel
theorem bt_sorted : bootBuiltins (Bi.nm .sorted) = some (.builtin "sorted") := by decide +kernel
theorem bt_isinstance : bootBuiltins "isinstance" = some (.builtin "isinstance") := by decide +kernel
theorem bt_tint : bootBuiltins "int" = some (.type "int") := by decide +kernel
theorem bt_tbool : bootBuiltins "bool" = some (.type "bool") := by decide +kernel
theorem bt_tstr : bootBuiltins "str" = some (.type "str") := by decide +kernel
theorem bt_ttuple : bootBuiltins "tuple" = some (.type "tuple") := by decide +kernel
theorem bt_tlist : bootBuiltins "list" = some (.type "list") := by decide +kernel
theorem nn_of {x : Str} (h : (x == ("__name__" : Str)) = false) : x ≠ "__name__" := fun e => by
  subst e
  have : (("__name__" : Str) == "__name__") = true := by decide +kernel
  rw [this] at h; cases h
/-- names of fields: those of the table, then ever longer ones -/
def padS (n : Nat) : Str := ⟨Array.replicate (n + 100) 120⟩
def nameOf (tab : List Str) (n : Nat) : Str := (tab[n]?).getD (padS n)
theorem nameOf_inj {tab : List Str} (nd : tab.Nodup) (sh : ∀ s ∈ tab, s.cps.size < 100) : ∀ f g, nameOf tab f = nameOf tab g → f = g := fun f g h => by
  unfold nameOf at h
  have short : ∀ (i j : Nat) s, tab[i]? = some s → tab[j]? = none → s = padS j → False := fun i j s e _ q => by
    have h1 := sh s (List.mem_of_getElem? e)
    rw [q] at h1
    unfold padS at h1
    simp at h1
    omega
  cases e1 : tab[f]? with
  | none =>
    cases e2 : tab[g]? with
    | none =>
      rw [e1, e2] at h
      have h : padS f = padS g := h
      have := congrArg (fun s : Str => s.cps.size) h
      unfold padS at this
      simpa using this
    | some t =>
      rw [e1, e2] at h
      exact (short g f t e2 e1 h.symm).elim
  | some s =>
    cases e2 : tab[g]? with
    | none =>
      rw [e1, e2] at h
      exact (short f g s e1 e2 h).elim
    | some t =>
      rw [e1, e2] at h
      have h : s = t := h
      subst h
      obtain ⟨h1, q1⟩ := List.getElem?_eq_some_iff.mp e1
      obtain ⟨h2, q2⟩ := List.getElem?_eq_some_iff.mp e2
      exact (List.getElem_inj nd).mp (q1.trans q2.symm)
/-- the law's promise: a script of at most 63 ints is handed in, True comes out -/
def spLaw (K : PySem.W.Frag) : Sp := fun vs H Q _ => ∃ (a : Addr) (ns : List Int), vs = [.ref a] ∧ SqL K H a (ns.map V.int) ∧ ns.length ≤ 63 ∧ ∀ H', Q (.bl true) H'
theorem law_imp {P : Program} {w : World} {mg : Str → Option Value} {base : Heap} {G : Gx} {cf : CF} {io : Option Nat} {k f : Nat} {fa : Addr} {fd : FuncData} {ps : List Str} (F : FnOk P w G.K mg base CX0 k fa fd ps (spI G cf io f)) (hio : io = none)
    (hl : ∀ ns : List Int, ns.length ≤ 63 → cf f [.va (.scr ns)] = .ok (.va (.bl true), none)) : FnOk P w G.K mg base CX0 k fa fd ps (spLaw G.K) := by
  subst hio
  refine FnOk.imp F fun vs H Q E h => ?_
  obtain ⟨a, ns, e, hS, hlen, k⟩ := h
  subst e
  refine ⟨⟨fun _ => False, fun _ => 0⟩, [.va (.scr ns)], fun _ => [], sr_none (P := ⟨fun _ => False, fun _ => 0⟩) (ds := [.scr ns]) (vs := [.ref a]) (fun x z => False.elim z) rfl fun j d z => ?_, ?_⟩
  · cases j with
    | succ j => simp at z
    | zero =>
      simp at z
      subst z
      refine ⟨.ref a, rfl, a, rfl, ?_⟩
      have e : hide H (fun _ => False) = H := funext fun b => hide_no fun z => z
      show SqL G.K (hide H fun _ => False) a _
      rw [e]; exact hS
  · rw [hl ns hlen]
    intro H' B C v P
    have := P.res.2
    have this : v = .bl true := this
    subst this
    exact k H'
/-- the places of the law's defs and classes -/
structure Ev where
  fa : Nat → Addr
  fd : Nat → FuncData
  ca : Nat → Addr
end Pf

/-! Pf14: more words: tuple(range(n)), calls without arguments -/
namespace Pf
open PySem L2
section
variable {G : Gx} {T : Tab} {cf : CF} {X : Cx} {e : Expr} {pa : PE} {pos p : Pos} {k f : Nat} {fa : Addr} {fd : FuncData} {xs : List Str} {x : Str}
theorem re_tupRange {p2 pos2 : Pos} (hc : X.calm = true) (hg : Gl X "tuple") (hm : X.mg "tuple" = none) (hg2 : Gl X "range") (hm2 : X.mg "range" = none) (ha : RE G T cf X e pa) (na : starEach [e] X.env = (false, eval e X.env) :: starEach [] X.env := by rfl)
    (na2 : starEach [.Call (.Name "range" p2) [e] [] pos2] X.env = (false, eval (.Call (.Name "range" p2) [e] [] pos2) X.env) :: starEach [] X.env := by rfl) : RE G T cf X (.Call (.Name "tuple" p) [.Call (.Name "range" p2) [e] [] pos2] [] pos) (.bi .tupRange (.cons pa .nil)) :=
  PE.imp (pe_tupRg hc hg hm (prg_1 hg2 hm2 ha na) na2) fun σ H Q h => bi1 (m := fun _ _ => .stuck) h fun Fo A d sl' H1 A1 x P S' r h => by
    cases d <;> first | exact (show False from h).elim | skip
    rename_i n
    obtain ⟨z, h⟩ := if_sat h
    refine ⟨n, r, ⟨by omega, by omega, by omega, by omega, by omega⟩, fun q hq => ?_⟩
    have e : Reps G (vis H1 Fo A1) (rgV 0 n) (rangeD 0 n) := by
      unfold rgV rangeD
      have := reps_int (G := G) (H := vis H1 Fo A1) ((List.range (n - 0).toNat).map fun i => (0 : Int) + (i : Nat))
      rw [List.map_map, List.map_map] at this
      exact this
    obtain ⟨P3, R3⟩ := out_tup S' hq e
    exact h _ _ _ P3 R3
theorem re_call0 (F : FnOk X.prog X.w X.K X.mg X.base CX0 k fa fd xs (spI G cf (ioOf T f) f)) (hr : Room k X.A) (hg : Gl X x) (hm : X.mg x = some (.ref fa)) (hk : PySem.W.keepIn X.K (.ref fa) = true) (hb : Binds X.K fd xs [])
    (hdb : (x == ("__debug__" : Str)) = false := by decide) : RE G T cf X (.Call (.Name x p) [] [] pos) (.call f .nil) := PE.imp (pe_call0 F hr hg hm hk hb .nil pass0 hdb) fun σ H Q h => by
  obtain ⟨Fo, A, sl, S, h⟩ := call_i h
  rw [evEs] at h
  exact (show KA G Fo A H σ _ ([], sl) from h) H A [] [] (Post.refl S) ⟨rfl, rfl⟩
theorem ints_reps {Hs : Hp} {vs : List V} {xs : List D} {ns : List Int} (r : Reps G Hs vs xs) (e : intsD xs = some ns) : vs = ns.map V.int := r.ints e
theorem re_sortedSet {p2 pos2 : Pos} (hc : X.calm = true) (hg : Gl X "sorted") (hm : X.mg "sorted" = none) (hg2 : Gl X "set") (hm2 : X.mg "set" = none) (ha : RE G T cf X e pa) (na : starEach [e] X.env = (false, eval e X.env) :: starEach [] X.env := by rfl) (hK : G.K = X.K := by rfl) :
    RE G T cf X (.Call (.Name "sorted" p) [.Call (.Name "set" p2) [e] [] pos2] [] pos) (.bi .sortedSet (.cons pa .nil)) :=
  PE.imp (pe_sortedSetL hc hg hm hg2 hm2 ha na) fun σ H Q h => bi1 (m := fun _ _ => .stuck) h fun Fo A d sl' H1 A1 x P S' r h => by
    cases d <;> first | exact (show False from h).elim | skip
    rename_i xs
    obtain ⟨ns, e, h⟩ := Rs.of_sat (Rs.sat_bind.mp h)
    obtain ⟨z, h⟩ := if_satR h
    obtain ⟨a, vs, e1, e2, e3⟩ := r
    have ev := ints_reps e3 e
    subst ev
    refine ⟨a, ns, e1, by rw [← hK]; exact SqL.of e2, z, fun q hq => ?_⟩
    obtain ⟨P3, R3⟩ := out_lst S' hq (reps_int (G := G) (H := vis H1 Fo A1) (setI ns))
    exact (show Kt G Fo A1 H1 σ sl' Q (.fr (.lst ((setI ns).map .int))) from h) _ _ _ P3 R3
theorem re_lenSet {p2 pos2 : Pos} (hc : X.calm = true) (hg : Gl X "len") (hm : X.mg "len" = none) (hg2 : Gl X "set") (hm2 : X.mg "set" = none) (ha : RE G T cf X e pa) (na : starEach [e] X.env = (false, eval e X.env) :: starEach [] X.env := by rfl) (hK : G.K = X.K := by rfl) :
    RE G T cf X (.Call (.Name "len" p) [.Call (.Name "set" p2) [e] [] pos2] [] pos) (.bi .lenSet (.cons pa .nil)) :=
  PE.imp (pe_lenSetL hc hg hm hg2 hm2 ha na) fun σ H Q h => bi1 (m := fun _ _ => .stuck) h fun Fo A d sl' H1 A1 x P S' r h => by
    cases d <;> first | exact (show False from h).elim | skip
    rename_i xs
    obtain ⟨ns, e, h⟩ := Rs.of_sat (Rs.sat_bind.mp h)
    obtain ⟨z, h⟩ := if_satR h
    obtain ⟨a, vs, e1, e2, e3⟩ := r
    have ev := ints_reps e3 e
    subst ev
    refine ⟨a, ns, e1, by rw [← hK]; exact SqL.of e2, z, ?_⟩
    have r0 : Rep G (vis H1 Fo A1) (V.int (setI ns).length) (.int (setI ns).length) := rfl
    exact (show Kt G Fo A1 H1 σ sl' Q (.va (.int (setI ns).length)) from h) _ _ _ (out_va S' r0).1 (out_va S' r0).2
end
end Pf

/-! Pf15: a row cut at each end (rows[-1].append within a loop), told by hand -/
namespace Pf
open PySem L2
/-- one sign more: the parts that are whole, the last part -/
def splS (e : Int) (s : List (List Int) × List Int) (x : Int) : List (List Int) × List Int := if x = e then (s.1 ++ [s.2], []) else (s.1, s.2 ++ [x])
def splF (e : Int) (ns : List Int) : List (List Int) × List Int := ns.foldl (splS e) ([], [])
def splR (e : Int) (ns : List Int) : List (List Int) := (splF e ns).1 ++ [(splF e ns).2]
/-- the value of split_rows -/
def splCF : List Sl → Rs (Rv × Option OP)
  | [.va (.lst xs), .va (.int e)] => (Rs.of (intsD xs)).bind fun ns => if ns.length ≤ 100000 then .ok (.fr (.lst ((splR e ns).map fun r => .lst (r.map .int))), none) else .stuck
  | _ => .stuck
def splD : PDef := ⟨2, [false, false], 4, false, .nil⟩
def splT (G : Gx) (T : Tab) (cf : CF) (K : PySem.W.Frag) : TS :=
  tSeq (tAsg (tLst (tCons (tLst tNil) tNil)) (gName 2)) (tSeq (tFor (iSeq K (tVar 0)) (gName 3) (tSeq (tIfS (tT G T cf (.cmp .eq (.var 3) (.var 1)))
    (tSeq (tDrop (tBM K "list" (rBm K .append) (tVar 2) (tCons (tLst tNil) tNil))) tNext)
    (tSeq (tDrop (tBM K "list" (rBm K .append) (tOp (rIxL K) (tVar 2) (tUn (rU fun i => .int (-i)) (tC (.int 1)))) (tCons (tVar 3) tNil))) tNext)) tNext)) (tSeq (tRet (tVar 2)) tNext))
theorem splF_len (e : Int) (ns : List Int) : (splF e ns).1.length ≤ ns.length ∧ (splF e ns).2.length ≤ ns.length := by
  have key : ∀ (ns : List Int) (s : List (List Int) × List Int), (ns.foldl (splS e) s).1.length ≤ s.1.length + ns.length ∧ (ns.foldl (splS e) s).2.length ≤ s.2.length + ns.length := by
    intro ns
    induction ns with
    | nil => intro s; simp
    | cons n ns ih =>
      intro s
      have := ih (splS e s n)
      rw [List.foldl_cons]
      unfold splS at this ⊢
      split at this <;> rename_i h <;> simp only [h, if_true, if_false, List.length_append, List.length_cons, List.length_nil] at this ⊢ <;> simp at this ⊢ <;> omega
  have := key ns ([], [])
  simpa [splF] using this
theorem splF_snoc (e : Int) (ns : List Int) (x : Int) : splF e (ns ++ [x]) = splS e (splF e ns) x := by
  unfold splF; rw [List.foldl_append]; rfl
section
variable {G : Gx} {T : Tab} {cf : CF} {H H' : Hp}
/-- rows and its parts as they stand -/
structure SplI (H0 H : Hp) (a : Addr) (fs : List Addr) (l : Addr) (F : List (List Int)) (L : List Int) : Prop where
  ext : Same H0 H
  new : ∀ b ∈ a :: (fs ++ [l]), H0 b = none
  nd : (a :: (fs ++ [l])).Nodup
  rows : H a = some (.lst ((fs ++ [l]).map V.ref))
  whole : fs.map H = F.map fun r => some (.lst (r.map V.int))
  part : H l = some (.lst (L.map V.int))
theorem SplI.same {H0 : Hp} {a l : Addr} {fs : List Addr} {F : List (List Int)} {L : List Int} (k : Same H H') (S : SplI H0 H a fs l F L) : SplI H0 H' a fs l F L := by
  refine ⟨S.ext.trans k, S.new, S.nd, k _ _ S.rows, ?_, k _ _ S.part⟩
  have : ∀ (fs : List Addr) (F : List (List Int)), fs.map H = (F.map fun r => some (.lst (r.map V.int))) → fs.map H' = F.map fun r => some (.lst (r.map V.int)) := by
    intro fs
    induction fs with
    | nil => intro F h; cases F with
      | nil => rfl
      | cons _ _ => cases h
    | cons f fs ih => intro F h; cases F with
      | nil => cases h
      | cons r F =>
        simp only [List.map_cons, List.cons.injEq] at h ⊢
        exact ⟨k _ _ h.1, ih F h.2⟩
  exact this _ _ S.whole
theorem map_upd {fs : List Addr} {b : Addr} {o : HO} (h : b ∉ fs) : fs.map (upd H b o) = fs.map H := List.map_congr_left fun x hx => upd_ne fun e => h (e ▸ hx)
/-- a test of two ints changes nothing that stands -/
theorem spl_test {σ : L2.St} {x e : Int} {Q : Bool → Hp → Prop} (h3 : σ[3]? = some (some (.int x))) (h1 : σ[1]? = some (some (.int e))) (hl : σ.length = 4)
    (q : ∀ H', Same H H' → Q (decide (x = e)) H') : tT G T cf (.cmp .eq (.var 3) (.var 1)) σ H Q := by
  let Fo : Fx := ⟨fun _ => False, fun _ => 0⟩
  let sl : Sls := [.un, .va (.int e), .un, .va (.int x)]
  have S : SR G Fo H σ sl (fun _ => []) := by
    refine ⟨hl, fun i d h => ?_, fun i b p h => ?_, fun _ _ => rfl, fun _ => List.nodup_nil, (fun _ _ _ _ h => absurd h List.not_mem_nil), (fun _ _ h => absurd h List.not_mem_nil), fun x h => absurd h id, fun i p h => ?_⟩
    · match i, h with
      | 1, h => cases h; exact ⟨_, h1, rfl⟩
      | 3, h => cases h; exact ⟨_, h3, rfl⟩
      | 0, h => cases h
      | 2, h => cases h
      | n + 4, h => cases h
    · match i, h with
      | 0, h => cases h
      | 1, h => cases h
      | 2, h => cases h
      | 3, h => cases h
      | n + 4, h => cases h
    · match i, h with
      | 0, h => cases h
      | 1, h => cases h
      | 2, h => cases h
      | 3, h => cases h
      | n + 4, h => cases h
  refine ⟨Fo, fun _ => [], sl, S, ?_⟩
  have e1 : evT T cf (.cmp .eq (.var 3) (.var 1)) sl = .ok (decide (x = e), sl) := by
    have z : eqD (.int x) (.int e) = .ok (decide (x = e)) := by
      simp [eqD, D.pl, D.py, PyData.depth, PyData.eqv]
      by_cases h : x = e <;> simp [h]
    simp [sl, cmpD, z]
  rw [e1]
  intro H' A' P
  refine q H' fun b o hb => hide_sub _ _ (P.ext b o ?_)
  show hide H _ b = _
  rw [hide_no fun z => ?_]
  · exact hb
  · rcases z with z | ⟨_, z⟩
    · exact z
    · exact absurd z List.not_mem_nil
theorem splI_new {H0 : Hp} {a l p : Addr} {fs : List Addr} {F : List (List Int)} {L : List Int} (S : SplI H0 H a fs l F L) (hp : H p = none) :
    SplI H0 (upd (upd H p (.lst [])) a (.lst ((fs ++ [l]).map V.ref ++ [.ref p]))) a (fs ++ [l]) p (F ++ [L]) [] := by
  have na : p ≠ a := fun e => by rw [e, S.rows] at hp; cases hp
  have nl : p ≠ l := fun e => by rw [e, S.part] at hp; cases hp
  have nf : p ∉ fs := fun e => by
    have := congrArg (fun z => H p ∈ z) S.whole
    have h1 : H p ∈ fs.map H := List.mem_map_of_mem e
    rw [S.whole, hp] at h1
    obtain ⟨_, _, z⟩ := List.mem_map.mp h1
    cases z
  obtain ⟨n1, n2⟩ := List.nodup_cons.mp S.nd
  have ext : Same H0 (upd (upd H p (.lst [])) a (.lst ((fs ++ [l]).map V.ref ++ [.ref p]))) := fun b o e => by
    have hb : b ≠ a := fun z => by rw [z, S.new a List.mem_cons_self] at e; cases e
    have hb2 : b ≠ p := fun z => by have := S.ext _ _ e; rw [z, hp] at this; cases this
    rw [upd_ne hb, upd_ne hb2]; exact S.ext _ _ e
  refine ⟨ext, fun b hb => ?_, ?_, ?_, ?_, ?_⟩
  · have : b ∈ a :: (fs ++ [l]) ∨ b = p := by simpa [or_assoc] using hb
    rcases this with z | z
    · exact S.new b z
    · subst z
      cases q : H0 b with
      | none => rfl
      | some o => rw [S.ext _ _ q] at hp; cases hp
  · rw [List.nodup_cons]
    refine ⟨fun h => ?_, ?_⟩
    · rcases List.mem_append.mp h with z | z
      · exact n1 z
      · exact na (List.mem_singleton.mp z).symm
    · rw [List.nodup_append]
      refine ⟨n2, by simp, fun x hx y hy e => ?_⟩
      rw [List.mem_singleton.mp hy] at e
      subst e
      rcases List.mem_append.mp hx with z | z
      · exact nf z
      · exact nl (List.mem_singleton.mp z)
  · rw [upd_same]; simp
  · rw [map_upd n1, map_upd (fun h => by
      rcases List.mem_append.mp h with z | z
      · exact nf z
      · exact nl (List.mem_singleton.mp z)), List.map_append, List.map_append, S.whole]
    simp [S.part]
  · rw [upd_ne na, upd_same]; rfl
theorem splI_put {H0 : Hp} {a l : Addr} {fs : List Addr} {F : List (List Int)} {L : List Int} {x : Int} (S : SplI H0 H a fs l F L) :
    SplI H0 (upd H l (.lst (L.map V.int ++ [.int x]))) a fs l F (L ++ [x]) := by
  obtain ⟨n1, n2⟩ := List.nodup_cons.mp S.nd
  have na : a ≠ l := fun e => n1 (by rw [e]; simp)
  have nf : l ∉ fs := fun e => (List.nodup_append.mp n2).2.2 l e l (by simp) rfl
  refine ⟨fun b o e => ?_, S.new, S.nd, ?_, ?_, ?_⟩
  · rw [upd_ne fun z => by rw [z, S.new l (by simp)] at e; cases e]; exact S.ext _ _ e
  · rw [upd_ne na]; exact S.rows
  · rw [map_upd nf]; exact S.whole
  · rw [upd_same]; simp
end
theorem reps_whole {G : Gx} {Hs H : Hp} : ∀ {fs : List Addr} {F : List (List Int)}, fs.map H = (F.map fun r => some (.lst (r.map V.int))) → (∀ b ∈ fs, ∀ o, H b = some o → Hs b = some o) → Reps G Hs (fs.map V.ref) (F.map fun r => .lst (r.map .int))
  | [], [], _, _ => rfl
  | [], _ :: _, h, _ => by cases h
  | _ :: _, [], h, _ => by cases h
  | f :: fs, r :: F, h, k => by
    simp only [List.map_cons, List.cons.injEq] at h
    exact ⟨.ref f, _, rfl, ⟨f, _, rfl, k f List.mem_cons_self _ h.1, reps_int r⟩, reps_whole h.2 fun b hb => k b (List.mem_cons_of_mem _ hb)⟩
theorem intsD_map {xs : List D} {ns : List Int} (h : intsD xs = some ns) : xs = ns.map .int := by
  induction xs generalizing ns with
  | nil => simp [intsD] at h; subst h; rfl
  | cons x xs ih =>
    cases x <;> simp only [intsD] at h <;> first | (cases h; done) | skip
    rename_i i
    obtain ⟨ms, e, rfl⟩ := Option.map_eq_some_iff.mp h
    rw [ih e]; rfl
theorem intsD_of : ∀ ns : List Int, intsD (ns.map .int) = some ns
  | [] => rfl
  | n :: ns => by simp [intsD, intsD_of ns]
theorem splCF_inv {as : List Sl} {Q : Rv × Option OP → Prop} (h : (splCF as).sat Q) : ∃ ns e, as = [.va (.lst (ns.map .int)), .va (.int e)] ∧ ns.length ≤ 100000 ∧ Q (.fr (.lst ((splR e ns).map fun r => .lst (r.map .int))), none) := by
  unfold splCF at h
  split at h
  · rename_i xs e
    obtain ⟨ns, e1, h⟩ := Rs.of_sat (Rs.sat_bind.mp h)
    obtain ⟨hz, h⟩ := if_satR h
    exact ⟨ns, e, by rw [intsD_map e1], hz, h⟩
  · exact h.elim
theorem fn_split {P : Program} {w : World} {K : PySem.W.Frag} {mg : Str → Option Value} {base : Heap} {G : Gx} {T : Tab} {pr : Nat → CF} {wf n k f : Nat} (hT : T f = some splD) (hpr : ∀ as, pr n f as = splCF as) {x qual : Str} {st : Stmt} {fa : Addr} {fd : FuncData} {N ps : List Str}
    (hK : G.K = K) (F : Fun K x qual st fa fd) (S : FnScope N ps (defScope st)) (hp : ps.length = 2) (hN : N.length = 4)
    (body : ∀ (cdv : Value) (A : Around) (outer : List Env) (s : Shared) (H : Hp) (E : XK), Room k (A.deeper (PyProof.Rows.envOfC qual (defScope st) s.heap.objs.size fa cdv)) →
      L2.PSs (cxOf CX0 P w K mg base N qual (defScope st) fa cdv A outer s H E).nox (defBody st) (splT G T (evF T pr wf n) K)) :
    FnOk P w K mg base CX0 (k + 1) fa fd ps (spI G (evF T pr wf (n + 1)) (ioOf T f) f) := by
  have hio : ioOf T f = none := by unfold ioOf; rw [hT]; rfl
  have opn : ∀ as {Q : Rv × Option OP → Prop}, (evF T pr wf (n + 1) f as).sat Q → ∃ ns e, as = [.va (.lst (ns.map .int)), .va (.int e)] ∧ ns.length ≤ 100000 ∧ Q (.fr (.lst ((splR e ns).map fun r => .lst (r.map .int))), none) := fun as Q h => by
    rw [evF, hT] at h
    obtain ⟨z, h⟩ := if_satR (show (if _ then _ else _ : Rs (Rv × Option OP)).sat Q from h)
    rw [if_neg (by decide), hpr] at h
    exact splCF_inv h
  refine F.ok S (fun vs H Q E h => ?_) (fun cdv A outer s H vs Q E hr h => ?_)
  · obtain ⟨Fo, as, A, S0, h⟩ := h
    obtain ⟨ns, e, ea, _, _⟩ := opn as h
    have := S0.len
    rw [List.length_map, ea] at this
    rw [this, hp]; rfl
  · obtain ⟨Fo, as, A0, S0, h⟩ := h
    refine ⟨_, body cdv A outer s H E hr, ?_⟩
    obtain ⟨ns, e, ea, hz, hQ⟩ := opn as h
    subst ea
    clear h
    have hv : vs.length = 2 := by have := S0.len; rw [List.length_map] at this; exact this
    obtain ⟨v0, v1, rfl⟩ : ∃ v0 v1, vs = [v0, v1] := by
      match vs, hv with
      | [a, b], _ => exact ⟨a, b, rfl⟩
    obtain ⟨v, e0, r0⟩ := S0.va 0 _ rfl
    obtain ⟨v', e1, r1⟩ := S0.va 1 _ rfl
    cases e0
    cases e1
    obtain ⟨ra, us, rfl, hra, hus⟩ := r0
    cases (show v1 = .int e from r1)
    have hus : us = ns.map V.int := hus.ints (intsD_of ns)
    subst hus
    have hra : H ra = some (.lst (ns.map V.int)) := hide_sub _ _ hra
    have eS : L2.start N [.ref ra, .int e] = [some (.ref ra), some (.int e), none, none] := by unfold L2.start; rw [hN]; rfl
    rw [eS]
    have sz : ns.length + 5 < sizeLine := by rw [sizeLine_eq]; omega
    refine ⟨by show (0 : Nat) ≤ _; exact Nat.zero_le _, fun p hp0 => ⟨by show 1 ≤ sizeLine; rw [sizeLine_eq]; decide, fun a ha => ?_⟩⟩
    have nap : a ≠ p := fun z => by rw [z, upd_same] at ha; cases ha
    have ha0 : H a = none := by rw [upd_ne nap] at ha; exact ha
    -- the loop
    have I0 : SplI H (upd (upd H p (.lst [])) a (.lst [.ref p])) a [] p [] [] := by
      refine ⟨fun b o eb => ?_, fun b hb => ?_, by simpa using nap, upd_same, rfl, by rw [upd_ne nap.symm, upd_same]; rfl⟩
      · have b1 : b ≠ a := fun z => by rw [z, ha0] at eb; cases eb
        have b2 : b ≠ p := fun z => by rw [z, hp0] at eb; cases eb
        rw [upd_ne b1, upd_ne b2]; exact eb
      · rcases List.mem_cons.mp hb with z | z
        · rw [z]; exact ha0
        · rw [show b = p by simpa using z]; exact hp0
    have hseq : ∀ H', Same H H' → SqL K H' ra (ns.map V.int) := fun H' k => SqL.of (k _ _ hra)
    refine ⟨.ref ra, rfl, ra, rfl, .inl ⟨⟨_, hseq _ I0.ext⟩, ?_⟩⟩
    refine ⟨fun i m σ H' => m = ns.length - i ∧ i ≤ ns.length ∧ σ.length = 4 ∧ σ[1]? = some (some (.int e)) ∧ σ[2]? = some (some (.ref a)) ∧ ∃ fs l, SplI H H' a fs l (splF e (ns.take i)).1 (splF e (ns.take i)).2, ⟨_, rfl, Nat.zero_le _, rfl, rfl, rfl, [], p, I0⟩, ?_⟩
    rintro i m σ H' ⟨rfl, hi, h4, h1, h2, fs, l, I⟩
    by_cases hlt : i < ns.length
    · have gi : (ns.map V.int)[i]? = some (.int ns[i]) := by simp [hlt]
      refine .inr ⟨⟨_, _, hseq _ I.ext, gi⟩, fun σ' H2 => i + 1 ≤ ns.length ∧ σ'.length = 4 ∧ σ'[1]? = some (some (.int e)) ∧ σ'[2]? = some (some (.ref a)) ∧ ∃ fs l, SplI H H2 a fs l (splF e (ns.take (i + 1))).1 (splF e (ns.take (i + 1))).2, fun σ' H2 z => ⟨ns.length - (i + 1), by omega, rfl, z⟩, fun y H2 yl => ?_⟩
      obtain ⟨q1, q2⟩ := yl
      subst q1
      have ey := q2 _ (hseq _ I.ext)
      rw [gi] at ey
      cases ey
      have et : splF e (ns.take (i + 1)) = splS e (splF e (ns.take i)) ns[i] := by
        rw [List.take_succ_eq_append_getElem hlt, splF_snoc]
      have f2 : (σ.set 3 (some (V.int ns[i])))[2]? = some (some (.ref a)) := by rw [List.getElem?_set_ne (by decide)]; exact h2
      have f1 : (σ.set 3 (some (V.int ns[i])))[1]? = some (some (.int e)) := by rw [List.getElem?_set_ne (by decide)]; exact h1
      have f3 : (σ.set 3 (some (V.int ns[i])))[3]? = some (some (.int ns[i])) := List.getElem?_set_self (by omega)
      have f4 : (σ.set 3 (some (V.int ns[i]))).length = 4 := by rw [List.length_set]; exact h4
      show tIfS _ _ _ _ (σ.set 3 (some (V.int ns[i]))) _
      refine spl_test f3 f1 f4 fun H3 k3 => ?_
      have I3 := I.same k3
      have bl := splF_len e (ns.take i)
      rw [List.length_take, Nat.min_eq_left hi] at bl
      have hfl : fs.length = (splF e (ns.take i)).1.length := by simpa using congrArg List.length I3.whole
      by_cases hx : ns[i] = e
      · rw [if_pos (by simpa using hx)]
        refine ⟨.ref a, f2, .inl ⟨rfl, _, SqL.of I3.rows⟩, Nat.zero_le _, fun p' hp' => ?_⟩
        have na : a ≠ p' := fun z => by rw [← z, I3.rows] at hp'; cases hp'
        refine ⟨a, _, .ref p', rfl, rfl, by rw [upd_ne na]; exact I3.rows, by simp; omega, ?_⟩
        refine ⟨hlt, f4, f1, f2, fs ++ [l], p', ?_⟩
        rw [et]
        unfold splS
        rw [if_pos hx]
        exact splI_new I3 hp'
      · rw [if_neg (by simpa using hx)]
        have gl : atI ((fs ++ [l]).map V.ref) (-1) = some (.ref l) := by
          unfold atI ixN
          simp
          rw [if_pos (by omega)]
          show (List.map V.ref fs ++ [V.ref l])[(-1 + ((fs.length : Int) + 1)).toNat]? = _
          have ez : (-1 + ((fs.length : Int) + 1)).toNat = (List.map V.ref fs).length := by rw [List.length_map]; omega
          rw [ez, List.getElem?_append_right (Nat.le_refl _)]
          simp
        refine ⟨.ref a, f2, 1, rfl, a, _, -1, .ref l, rfl, rfl, SqL.of I3.rows, gl, .inl ⟨rfl, _, SqL.of I3.part⟩, .int ns[i], f3, l, _, .int ns[i], rfl, rfl, I3.part, by simp; omega, ?_⟩
        refine ⟨hlt, f4, f1, f2, fs, l, ?_⟩
        rw [et]
        unfold splS
        rw [if_neg hx]
        exact splI_put I3
    · have ei : i = ns.length := by omega
      subst ei
      rw [List.take_length] at I
      refine .inl ⟨⟨_, hseq _ I.ext, by simp⟩, ?_⟩
      refine ⟨.ref a, h2, hQ H' [a] [] (.ref a) ⟨by simp, fun x hx z => ?_, fun b o hb => ?_, fun x hx => ?_, ⟨a, rfl, rfl, _, I.rows, ?_⟩, by rw [hio]⟩⟩
      · have : x = a := by simpa using hx
        subst this
        exact S0.fa x z ha0
      · obtain ⟨n1, n2⟩ := hide_some hb
        show hide H' _ b = _
        rw [hide_no fun z => ?_]
        · exact I.ext _ _ n2
        · rcases z with z | z
          · exact n1 (.inl z)
          · rw [show b = a by simpa using z, ha0] at n2; cases n2
      · cases q : H x with
        | none => exact absurd q (S0.fa x hx)
        | some o => rw [I.ext _ _ q]
      · have hw : (fs ++ [l]).map H' = (splR e ns).map fun r => some (.lst (r.map V.int)) := by
          unfold splR
          rw [List.map_append, List.map_append, I.whole]
          simp [I.part]
        refine reps_whole hw fun b hb o ho => ?_
        rw [hide_no fun z => ?_]
        · exact ho
        · rcases z with z | z
          · exact S0.fa b z (I.new b (List.mem_cons_of_mem _ hb))
          · rw [show b = a by simpa using z] at hb
            exact (List.nodup_cons.mp I.nd).1 hb
end Pf

/-! Pf16: pairs with an owned list; instances looked at while frozen; lists in fields -/
namespace Pf
open PySem L2
section
variable {G : Gx} {T : Tab} {cf : CF} {wf : Nat} {Fo : Fx} {A A1 A2 A' : Nat → List Addr} {H H1 H2 H' Hs Hs' : Hp} {σ σ1 σ2 : L2.St} {sl sl1 sl2 sl' : Sls} {B B1 B2 B' : List Addr} {v : V} {r : Rv} {vs : List V} {rs : List Rv}
variable {X : Cx} {a b c e o tg it : Expr} {es : List Expr} {pa pb pc pe : PE} {ps : PEs} {pos p apos : Pos} {D : Ends} {st : Stmt}
/-! ### a pair of settled data and an owned list -/
theorem re_tup2 (i : Nat) {x1} {x : Str} {px : Pos} (he : RE G T cf X e pe) (hx : X.N[i]? = some x := by rfl) (hv : Vis X.env.scope x := by first | exact Or.inl rfl | exact Or.inr (Or.inl rfl) | exact Or.inr (Or.inr rfl))
    (hd : (x == ("__debug__" : Str)) = false := by decide) (hcd : (x == ("__classdict__" : Str)) = false := by decide) (hs : starEach [e, .Name x px] X.env = (false, eval e X.env) :: starEach [.Name x px] X.env := by rfl) (hs2 : starEach [.Name x px] X.env = (false, eval (.Name x px) X.env) :: starEach [] X.env := by rfl) :
    RE G T cf X (.Tuple [e, .Name x px] x1 pos) (.tup2 pe i) := PE.imp (pe_tup (pa_cons he (pa_cons (pe_var hx hv hd hcd) pa_nil hs2) hs)) fun σ H Q h => by
  obtain ⟨Fo, A, sl, S, h⟩ := h
  rw [evE] at h
  refine ⟨Fo, A, sl, S, Rs.sat_mono (Rs.sat_bind.mp h) fun p h H1 A1 B1 v P1 R1 => ?_⟩
  obtain ⟨d, sl2, A2, P2, S2, rp, h⟩ := settle1_go P1 R1 (Rs.sat_bind.mp h)
  have h : Rs.sat (match sl2[i]? with
    | some (.ow true (.lst xs)) => Rs.ok ((.pr d xs, sl2.set i .un) : Rv × Sls)
    | _ => .stuck) (KE G Fo A H σ Q) := h
  cases ei : sl2[i]? with
  | none => rw [ei] at h; exact h.elim
  | some y =>
    rw [ei] at h
    cases y <;> first | exact (show False from h).elim | skip
    rename_i bb pp
    cases bb <;> first | exact (show False from h).elim | skip
    cases pp <;> first | exact (show False from h).elim | skip
    rename_i xs
    obtain ⟨l, hσ, hA, us, hl, hr⟩ := S2.ow i true _ ei
    refine ⟨.ref l, hσ, by show 2 ≤ sizeLine; rw [sizeLine_eq]; decide, fun q hq => ?_⟩
    obtain ⟨S3, ev3⟩ := S2.shut ⟨_, ei⟩
    have P4 := S3.grow (H' := upd H1 q (.tup [v, .ref l])) (B := [q]) (same_upd hq) (by simp) fun x hx => by
      have : x = q := by simpa using hx
      subst this
      exact ⟨hq, by rw [upd_same]; simp⟩
    rw [hA] at S3 P4 ev3
    have nlq : l ≠ q := fun z => by rw [z, hq] at hl; cases hl
    have hk : ∀ x, x ≠ q → upd H1 q (.tup [v, .ref l]) x = H1 x := fun x hx => upd_ne hx
    have eU : U (U Fo [l]) [q] = U Fo [l, q] := by rw [U_app]; rfl
    have st4 := P4.st
    have ex4 := P4.ext
    rw [eU] at st4 ex4
    rw [ev3] at ex4
    have Sx : Same (vis H1 Fo A2) (vis (upd H1 q (.tup [v, .ref l])) (U Fo [l, q]) (clrA A2 i)) := ex4
    have h : KE G Fo A H σ Q (.pr d xs, sl2.set i .un) := h
    have P2e := P2.ext
    rw [U_nil] at P2e
    refine h _ (clrA A2 i) [l, q] (.ref q) ⟨st4, by simp [nlq], fun x hx z => ?_, P2e.trans Sx, fun x hx => ?_⟩ ⟨q, l, v, us, rfl, rfl, upd_same, rp.mono Sx, by rw [hk l nlq]; exact hl, hr.mono Sx⟩
    · rcases List.mem_cons.mp hx with c | c
      · rw [c] at z; exact S2.fd i l (by rw [hA]; simp) z
      · rw [List.mem_singleton.mp c] at z; exact S2.fa q z hq
    · rw [hk x fun z => S2.fa x hx (by rw [z]; exact hq)]
      exact P2.fo x hx
theorem rs_asgT2 (i j : Nat) {x y : Str} {tk : Nat} {tpos px py : Pos} (hN : X.N.Nodup) (hc : X.calm = true) (he : RE G T cf X e pe) (hi : X.N[i]? = some x := by rfl) (hj : X.N[j]? = some y := by rfl) (hx : Loc X.env.scope x := by first | exact Or.inl rfl | exact Or.inr rfl) (hy : Loc X.env.scope y := by first | exact Or.inl rfl | exact Or.inr rfl)
    (hf : X.fn x = true ∨ X.env.scope.names.lookup x = some .local := by first | exact .inl rfl | exact .inr rfl | assumption) (hf2 : X.fn y = true ∨ X.env.scope.names.lookup y = some .local := by first | exact .inl rfl | exact .inr rfl | assumption)
    (a1 : (assignEach (.Name x px :: [.Name y py]) X.env).map (·.2) = assign (.Name x px) X.env :: (assignEach [.Name y py] X.env).map (·.2) := by rfl) (a2 : (assignEach (.Name y py :: []) X.env).map (·.2) = assign (.Name y py) X.env :: (assignEach [] X.env).map (·.2) := by rfl)
    (hn : (assignEach [.Name x px, .Name y py] X.env).length = 2 := by rfl) (hst : (assignEach [.Name x px, .Name y py] X.env).findIdx? (·.1) = none := by rfl) (hs : swapsWithSole [.Tuple [.Name x px, .Name y py] tk tpos] e pos.line X.env = pure false := by rfl) (hw : swappedStores [.Tuple [.Name x px, .Name y py] tk tpos] e X.env = pure none := by rfl) (hK : G.K = X.K := by rfl) :
    RS G T cf wf X (.Assign [.Tuple [.Name x px, .Name y py] tk tpos] e pos) (.asgT2 i j pe) :=
  PS.imp (ps_asg he (pg_tup hc (pgs_cons (pg_name (pos := px) hN hi hx hf) (pgs_cons (pg_name (pos := py) hN hj hy hf2) pgs_nil a2) a1) hn hst) hs hw) fun D σ H h => by
  obtain ⟨Fo, A, sl, S, h⟩ := h
  rw [evS] at h
  refine ⟨Fo, A, sl, S, Rs.sat_mono (Rs.sat_bind.mp h) fun p h H1 A1 B1 v P1 R1 => ?_⟩
  obtain ⟨r, s⟩ := p
  cases r <;> first | exact (show False from h).elim | skip
  rename_i d xs
  obtain ⟨a, b, v1, us, e1, e2, e3, e4, e5, e6⟩ := R1
  subst e1 e2
  have P1' : Post G Fo A H ([b] ++ [a]) A1 H1 σ s := P1
  obtain ⟨P2, ev2⟩ := P1'.opnR
  obtain ⟨hil, h⟩ := setS_go (Rs.sat_bind.mp h)
  obtain ⟨hjl, h⟩ := setS_go (Rs.sat_bind.mp h)
  obtain ⟨S3, ev3⟩ := P2.st.setV hil (e4.mono ev2)
  obtain ⟨S4, ev4⟩ := S3.setO (p := .lst xs) (a := b) hjl P2.nd P2.out ⟨rfl, us, e5, (e6.mono ev2).mono ev3⟩
  have h : KS G Fo A H D (.nx, (s.set i (.va d)).set j (.ow true (.lst xs))) := h
  refine ⟨a, [v1, .ref b], rfl, SqT.of (by rw [← hK] at *; exact e3), rfl, v1, [.ref b], rfl, .ref b, [], rfl, rfl, ?_⟩
  exact h H1 _ _ ⟨S4, P2.ext.trans (ev3.trans ev4), P2.fo⟩
/-! ### an instance is looked at -/
theorem hidS_get : ∀ (sl : Sls) (j : Nat), (hidS sl)[j]? = (sl[j]?).map fun s => match s with
    | .ow _ _ => .un
    | s => s
  | [], j => rfl
  | .ow _ _ :: r, 0 => rfl
  | .un :: r, 0 => rfl
  | .va _ :: r, 0 => rfl
  | .ow _ _ :: r, j + 1 => by simp [hidS, hidS_get r j]
  | .un :: r, j + 1 => by simp [hidS, hidS_get r j]
  | .va _ :: r, j + 1 => by simp [hidS, hidS_get r j]
theorem hidS_len : ∀ sl : Sls, (hidS sl).length = sl.length
  | [] => rfl
  | .ow _ _ :: r => by simp [hidS, hidS_len r]
  | .un :: r => by simp [hidS, hidS_len r]
  | .va _ :: r => by simp [hidS, hidS_len r]
theorem SR.frozen {i : Nat} {bb : Bool} {pp : OP} (S : SR G Fo H σ sl A) (hi : sl[i]? = some (.ow bb pp)) :
    SR G ⟨fun x => Fo x ∨ ∃ j, j ≠ i ∧ x ∈ A j, Fo.ro⟩ H σ ((hidS sl).set i (.va pp.d)) (fun _ => []) := by
  have hd : ∀ x, Hd ⟨fun x => Fo x ∨ ∃ j, j ≠ i ∧ x ∈ A j, Fo.ro⟩ (fun _ => []) x → Hd Fo A x := fun x h => by
    rcases h with (h | ⟨j, _, h⟩) | ⟨_, h⟩
    · exact .inl h
    · exact .inr ⟨j, h⟩
    · cases h
  have ev : Same (vis H Fo A) (vis H ⟨fun x => Fo x ∨ ∃ j, j ≠ i ∧ x ∈ A j, Fo.ro⟩ (fun _ => [])) := hide_mono hd
  refine ⟨by rw [List.length_set, hidS_len]; exact S.len, fun j d h => ?_, fun j b p h => ?_, fun _ _ => rfl, fun _ => List.nodup_nil, (fun _ _ _ _ h => absurd h List.not_mem_nil), (fun _ _ h => absurd h List.not_mem_nil), fun x h => ?_, fun j p h => ?_⟩
  · rcases get_set h with ⟨c, z⟩ | ⟨c, z⟩
    · cases z
      subst c
      obtain ⟨a, hσ, o⟩ := S.ow j bb pp hi
      refine ⟨.ref a, hσ, o.rep ev fun b hb o ho => ?_⟩
      show hide H _ b = _
      rw [hide_no fun z => ?_]
      · exact ho
      · rcases z with (z | ⟨k, hk, z⟩) | ⟨_, z⟩
        · exact S.fd j b hb z
        · exact S.dj k j b hk z hb
        · cases z
    · rw [hidS_get] at z
      cases q : sl[j]? with
      | none => rw [q] at z; cases z
      | some y =>
        rw [q] at z
        cases y with
        | un => cases z
        | ow _ _ => cases z
        | va d' =>
          cases z
          obtain ⟨w, w1, w2⟩ := S.va j _ q
          exact ⟨w, w1, w2.mono ev⟩
  · rcases get_set h with ⟨c, z⟩ | ⟨c, z⟩
    · cases z
    · rw [hidS_get] at z
      cases q : sl[j]? with
      | none => rw [q] at z; cases z
      | some y => rw [q] at z; cases y <;> cases z
  · rcases h with h | ⟨j, _, h⟩
    · exact S.fa x h
    · obtain ⟨o, e⟩ := S.there h
      rw [e]; simp
  · rcases get_set h with ⟨c, z⟩ | ⟨c, z⟩
    · cases z
    · rw [hidS_get] at z
      cases q : sl[j]? with
      | none => rw [q] at z; cases z
      | some y => rw [q] at z; cases y <;> cases z
theorem rvr_flat {q : Rv} (f : q.flat = true) (h : RvR G Hs H σ B v q) : RvR G Hs' H σ B v q := by
  cases q with
  | pr _ _ => cases f
  | s i => cases f
  | va d =>
    obtain ⟨e, r⟩ := h
    have f : d.sc.isSome = true := f
    cases z : d.sc with
    | none => rw [z] at f; cases f
    | some x =>
      have := r.sc z
      subst this
      exact ⟨e, rep_sc z⟩
  | fr p =>
    obtain ⟨a, e, o⟩ := h
    have f : p.flat = true := by
      cases p with
      | obj c fs => cases f
      | dct kvs => cases f
      | dcn kvs => cases f
      | lst ds => exact f
    exact ⟨a, e, own_flat f o⟩
/-- what is known behind, with all that is owned as it was -/
theorem SR.thaw {i : Nat} {bb : Bool} {pp : OP} {q2 : Sls} (S : SR G Fo H σ sl A) (hi : sl[i]? = some (.ow bb pp)) (P : Post G ⟨fun x => Fo x ∨ ∃ j, j ≠ i ∧ x ∈ A j, Fo.ro⟩ (fun _ => []) H B A' H' σ q2) : Post G Fo A H B A H' σ sl := by
  have vz : ∀ x o, ¬ (Fo x ∨ ∃ j, j ≠ i ∧ x ∈ A j) → H x = some o → H' x = some o ∧ x ∉ B := fun x o n e => by
    have h1 : vis H ⟨fun x => Fo x ∨ ∃ j, j ≠ i ∧ x ∈ A j, Fo.ro⟩ (fun _ => []) x = some o := by
      show hide H _ x = _
      rw [hide_no fun z => ?_]
      · exact e
      · rcases z with z | ⟨_, z⟩
        · exact n z
        · cases z
    obtain ⟨n2, e2⟩ := hide_some (P.ext x o h1)
    exact ⟨e2, fun z => n2 (.inl (.inr z))⟩
  have keep : ∀ j x, x ∈ A j → H' x = H x ∧ x ∉ B := fun j x hx => by
    by_cases c : j = i
    · subst c
      obtain ⟨o, e⟩ := S.there hx
      obtain ⟨z1, z2⟩ := vz x o (fun z => by
        rcases z with z | ⟨k, hk, z⟩
        · exact S.fd j x hx z
        · exact S.dj k j x hk z hx) e
      exact ⟨by rw [z1, e], z2⟩
    · exact ⟨P.fo x (.inr ⟨j, c, hx⟩), fun z => P.out x z (.inr ⟨j, c, hx⟩)⟩
  have ev : Same (vis H Fo A) (vis H' (U Fo B) A) := hide_same fun x o n e => by
    obtain ⟨z1, z2⟩ := vz x o (fun z => by
      rcases z with z | ⟨j, _, z⟩
      · exact n (.inl z)
      · exact n (.inr ⟨j, z⟩)) e
    refine ⟨fun z => ?_, z1⟩
    rcases z with (z | z) | ⟨j, z⟩
    · exact n (.inl z)
    · exact z2 z
    · exact n (.inr ⟨j, z⟩)
  refine ⟨⟨S.len, fun j d h => ?_, fun j b p h => ?_, S.no, S.nd, S.dj, fun j x hx z => ?_, fun x z => ?_, S.ro⟩, P.nd, fun x hx z => P.out x hx (.inl z), ev, fun x hx => P.fo x (.inl hx)⟩
  · obtain ⟨w, w1, w2⟩ := S.va j d h
    exact ⟨w, w1, w2.mono ev⟩
  · obtain ⟨a, w1, w2⟩ := S.ow j b p h
    exact ⟨a, w1, w2.mono ev fun x hx => (keep j x hx).1⟩
  · rcases z with z | z
    · exact S.fd j x hx z
    · exact (keep j x hx).2 z
  · rcases z with z | z
    · rw [P.fo x (.inl z)]; exact S.fa x z
    · exact P.st.fa x (.inr z)
theorem re_frz (i : Nat) (he : RE G T cf X e pe) : RE G T cf X e (.frz i pe) := PE.imp he fun σ H Q h => by
  obtain ⟨Fo, A, sl, S, h⟩ := h
  rw [evE] at h
  cases ei : sl[i]? with
  | none => rw [ei] at h; exact h.elim
  | some y =>
    rw [ei] at h
    cases y <;> first | exact (show False from h).elim | skip
    rename_i bb pp
    refine ⟨_, _, _, S.frozen ei, Rs.sat_mono (Rs.sat_bind.mp h) fun q h H' A' B v P R => ?_⟩
    obtain ⟨hf, h⟩ := if_satR h
    have h : KE G Fo A H σ Q (q.1, sl) := h
    exact h H' A B v (S.thaw ei P) (rvr_flat hf R)
theorem rt_frz (i : Nat) {p : PE} (hp : p.tst = false) (he : RT G T cf X e p) : RT G T cf X e (.frz i p) := PT.imp he fun σ H Q h => by
  obtain ⟨Fo, A, sl, S, h⟩ := h
  rw [evT_of rfl] at h
  rw [evE] at h
  cases ei : sl[i]? with
  | none => rw [ei] at h; exact h.elim
  | some y =>
    rw [ei] at h
    cases y <;> first | exact (show False from h).elim | skip
    rename_i bb pp
    refine ⟨_, _, _, S.frozen ei, ?_⟩
    rw [evT_of hp]
    have h := Rs.sat_bind.mp (Rs.sat_bind.mp h)
    refine Rs.sat_bind.mpr (Rs.sat_mono h fun q h => ?_)
    obtain ⟨hf, h⟩ := if_satR h
    have hv : ∀ s, view s q.1 = view q.2 q.1 := fun s => by
      cases q1 : q.1 with
      | va d => rfl
      | fr p => rfl
      | s j => rw [q1] at hf; cases hf
      | pr _ _ => rw [q1] at hf; cases hf
    have h : Rs.sat ((Rs.of (view sl q.1)).bind fun x => (boolD x).bind fun k => .ok (k, sl)) (KT G Fo A H σ Q) := h
    rw [hv sl] at h
    refine Rs.sat_bind.mpr (Rs.sat_mono (Rs.sat_bind.mp h) fun x h => Rs.sat_bind.mpr (Rs.sat_mono (Rs.sat_bind.mp h) fun k h => ?_))
    have h : KT G Fo A H σ Q (k, sl) := h
    exact fun H' A' P => h H' A (S.thaw ei P)
/-! ### lists in fields -/
theorem putF_look {f : Str} {v : V} : ∀ gs : List (Str × V), gs.lookup f = some v → putF f v gs = gs
  | [], h => by cases h
  | (g, w) :: gs, h => by
    by_cases c : g = f
    · subst c
      simp at h
      subst h
      unfold putF
      rw [if_pos rfl]
    · have c2 : (f == g) = false := by simpa using fun z : f = g => c z.symm
      rw [List.lookup_cons, c2] at h
      unfold putF
      rw [if_neg c, putF_look gs h]
theorem OwnF.mono2 {H H' : Hp} : ∀ {fs : List (Nat × F)} {gs : List (Str × V)} {B : List Addr}, (∀ b ∈ B, H' b = H b) → OwnF G Hs H fs gs B → OwnF G Hs H' fs gs B := fun k h => OwnF.mono (Same.refl _) k h
theorem ownF_new {f : Nat} {l : Addr} (hl : H l = some (.lst [])) : ∀ {fs : List (Nat × F)} {gs : List (Str × V)} {B : List Addr}, OwnF G Hs H fs gs B → l ∉ B → B.Nodup → ∃ B', (∀ x ∈ B', x = l ∨ x ∈ B) ∧ B'.Nodup ∧ OwnF G Hs H (putA f (.ol []) fs) (putF (G.FN f) (.ref l) gs) B'
  | [], gs, B, h, hn, nd => by
    obtain ⟨e1, e2⟩ := h
    subst e1 e2
    exact ⟨[l], fun x hx => .inl (by simpa using hx), by simp, l, [], [], [], rfl, rfl, hl, rfl, rfl, rfl⟩
  | (g, x) :: fs, gs, B, h, hn, nd => by
    by_cases q : f = g
    · subst q
      cases x with
      | fz d0 =>
        obtain ⟨w, r, e1, e2, e3⟩ := h
        subst e1
        refine ⟨l :: B, fun x hx => (List.mem_cons.mp hx).imp id id, List.nodup_cons.mpr ⟨hn, nd⟩, ?_⟩
        unfold putA putF
        rw [if_pos rfl, if_pos rfl]
        exact ⟨l, [], r, B, rfl, rfl, hl, rfl, e3⟩
      | ol ds =>
        obtain ⟨l0, us, r, B', e1, e2, e3, e4, e5⟩ := h
        subst e1 e2
        obtain ⟨n1, n2⟩ := List.nodup_cons.mp nd
        refine ⟨l :: B', fun x hx => (List.mem_cons.mp hx).imp id fun z => List.mem_cons_of_mem _ z, List.nodup_cons.mpr ⟨fun z => hn (List.mem_cons_of_mem _ z), n2⟩, ?_⟩
        unfold putA putF
        rw [if_pos rfl, if_pos rfl]
        exact ⟨l, [], r, B', rfl, rfl, hl, rfl, e5⟩
    · have q2 : ¬ G.FN g = G.FN f := fun z => q (G.fi _ _ z.symm)
      cases x with
      | fz d0 =>
        obtain ⟨w, r, e1, e2, e3⟩ := h
        subst e1
        obtain ⟨B', z1, z2, z3⟩ := ownF_new (f := f) hl e3 hn nd
        refine ⟨B', z1, z2, ?_⟩
        unfold putA putF
        rw [if_neg q, if_neg q2]
        exact ⟨w, _, rfl, e2, z3⟩
      | ol ds =>
        obtain ⟨l0, us, r, B0, e1, e2, e3, e4, e5⟩ := h
        subst e1 e2
        obtain ⟨n1, n2⟩ := List.nodup_cons.mp nd
        obtain ⟨B', z1, z2, z3⟩ := ownF_new (f := f) hl e5 (fun z => hn (List.mem_cons_of_mem _ z)) n2
        have nl0 : l0 ∉ B' := fun z => by
          rcases z1 l0 z with c | c
          · exact hn (by rw [← c]; exact List.mem_cons_self)
          · exact n1 c
        refine ⟨l0 :: B', fun x hx => ?_, List.nodup_cons.mpr ⟨nl0, z2⟩, ?_⟩
        · rcases List.mem_cons.mp hx with c | c
          · exact .inr (by rw [c]; exact List.mem_cons_self)
          · exact (z1 x c).imp id fun z => List.mem_cons_of_mem _ z
        · unfold putA putF
          rw [if_neg q, if_neg q2]
          exact ⟨l0, us, _, B', rfl, rfl, e3, e4, z3⟩
theorem ownF_app {f : Nat} {xs : List Pf.D} : ∀ {fs : List (Nat × F)} {gs : List (Str × V)} {B : List Addr}, OwnF G Hs H fs gs B → B.Nodup → fs.lookup f = some (.ol xs) →
    ∃ l us, gs.lookup (G.FN f) = some (.ref l) ∧ l ∈ B ∧ H l = some (.lst us) ∧ Reps G Hs us xs ∧ ∀ y d, Rep G Hs y d → OwnF G Hs (upd H l (.lst (us ++ [y]))) (putA f (.ol (xs ++ [d])) fs) gs B
  | [], _, _, _, _, e => by simp at e
  | (g, x) :: fs, gs, B, h, nd, e => by
    by_cases q : f = g
    · subst q
      simp at e
      subst e
      obtain ⟨l, us, r, B', e1, e2, e3, e4, e5⟩ := h
      subst e1 e2
      obtain ⟨n1, n2⟩ := List.nodup_cons.mp nd
      refine ⟨l, us, by simp, List.mem_cons_self, e3, e4, fun y d hy => ?_⟩
      unfold putA
      rw [if_pos rfl]
      exact ⟨l, us ++ [y], r, B', rfl, rfl, upd_same, e4.app ⟨y, [], rfl, hy, rfl⟩, OwnF.mono2 (fun b hb => upd_ne fun z => n1 (z ▸ hb)) e5⟩
    · have q1 : (f == g) = false := by simpa using q
      have q2 : (G.FN f == G.FN g) = false := by
        have : G.FN f ≠ G.FN g := fun z => q (G.fi _ _ z)
        simpa using this
      rw [List.lookup_cons, q1] at e
      cases x with
      | fz d0 =>
        obtain ⟨w, r, e1, e2, e3⟩ := h
        subst e1
        obtain ⟨l, us, z1, z2, z3, z4, z5⟩ := ownF_app e3 nd e
        refine ⟨l, us, by rw [List.lookup_cons, q2]; exact z1, z2, z3, z4, fun y d hy => ?_⟩
        unfold putA
        rw [if_neg q]
        exact ⟨w, r, rfl, e2, z5 y d hy⟩
      | ol ds =>
        obtain ⟨l0, us0, r, B0, e1, e2, e3, e4, e5⟩ := h
        subst e1 e2
        obtain ⟨n1, n2⟩ := List.nodup_cons.mp nd
        obtain ⟨l, us, z1, z2, z3, z4, z5⟩ := ownF_app e5 n2 e
        refine ⟨l, us, by rw [List.lookup_cons, q2]; exact z1, List.mem_cons_of_mem _ z2, z3, z4, fun y d hy => ?_⟩
        unfold putA
        rw [if_neg q]
        have ne : l0 ≠ l := fun z => n1 (by rw [z]; exact z2)
        exact ⟨l0, us0, r, B0, rfl, rfl, by rw [upd_ne ne]; exact e3, e4, z5 y d hy⟩
theorem rs_setfldE (i : Nat) {ci f : Nat} {fn x : Str} {px pos' lpos : Pos} (hc : Cls X.K (G.CA ci)) (hn : NoAttr X.K (G.CA ci) fn) (hf : G.FN f = fn) (hN : X.N[i]? = some x := by rfl) (hv : Vis X.env.scope x := by first | exact Or.inl rfl | exact Or.inr (Or.inl rfl) | exact Or.inr (Or.inr rfl))
    (hd : (x == ("__debug__" : Str)) = false := by decide) (hcd : (x == ("__classdict__" : Str)) = false := by decide) (hs : swapsWith (.List [] lpos) (some (.Attribute (.Name x px) fn pos')) pos.line X.env = pure false := by rfl) :
    RS G T cf wf X (.Assign [.Attribute (.Name x px) fn pos'] (.List [] lpos) pos) (.setfldE i ci f) := PS.imp (ps_fld (pe_var hN hv hd hcd) (pe_lst pa_nil) hs) fun D σ H h => by
  obtain ⟨Fo, A, sl, S, h⟩ := h
  rw [evS] at h
  refine ⟨by show (0 : Nat) ≤ _; exact Nat.zero_le _, fun l hl => ?_⟩
  cases ei : sl[i]? with
  | none => rw [ei] at h; exact h.elim
  | some w =>
    rw [ei] at h
    cases w <;> first | exact (show False from h).elim | skip
    rename_i b pp
    cases pp <;> first | exact (show False from h).elim | skip
    rename_i c' fs
    obtain ⟨⟨z1, z2⟩, h2⟩ := if_sat h
    clear h
    subst z1
    obtain ⟨a, w1, dx, gs, B', hA, hH, ow⟩ := S.ow i b _ ei
    have ndA := S.nd i
    rw [hA] at ndA
    obtain ⟨nda, nd'⟩ := List.nodup_cons.mp ndA
    have hal : a ≠ l := fun z => by rw [z, hl] at hH; cases hH
    have nl : l ∉ B' := fun z => by
      obtain ⟨o, e⟩ := ow.there l z
      rw [hl] at e; cases e
    have ow1 : OwnF G (vis H Fo A) (upd (upd H l (.lst [])) a (.ins (G.CA c') dx (putF fn (.ref l) gs))) fs gs B' := OwnF.mono2 (fun y hy => by
      have y1 : y ≠ a := fun z => nda (by rw [← z]; exact hy)
      have y2 : y ≠ l := fun z => nl (by rw [← z]; exact hy)
      rw [upd_ne y1, upd_ne y2]) ow
    obtain ⟨B2, zb, nb, ow2⟩ := ownF_new (f := f) (l := l) (by rw [upd_ne hal.symm, upd_same]) ow1 nl nd'
    have hB : ∀ y ∈ a :: B2, y ∈ A i ∨ H y = none := fun y hy => by
      rcases List.mem_cons.mp hy with z | z
      · exact .inl (by rw [hA, z]; exact List.mem_cons_self)
      · rcases zb y z with c | c
        · exact .inr (by rw [c]; exact hl)
        · exact .inl (by rw [hA]; exact List.mem_cons_of_mem _ c)
    have naB : a ∉ B2 := fun z => by
      rcases zb a z with c | c
      · exact hal c
      · exact nda c
    have kk : ∀ y o, y ∉ A i → H y = some o → upd (upd H l (.lst [])) a (.ins (G.CA c') dx (putF fn (.ref l) gs)) y = some o := fun y o n q => by
      have y1 : y ≠ a := fun z => n (by rw [hA, z]; exact List.mem_cons_self)
      have y2 : y ≠ l := fun z => by rw [z, hl] at q; cases q
      rw [upd_ne y1, upd_ne y2]; exact q
    have ev : Same (vis H Fo A) (vis (upd (upd H l (.lst [])) a (.ins (G.CA c') dx (putF fn (.ref l) gs))) Fo (putB A i (a :: B2))) := hide_same fun y o n q => ⟨fun z => by
      rcases z with z | ⟨j, z⟩
      · exact n (.inl z)
      · rcases mem_putB z with ⟨_, z⟩ | ⟨_, z⟩
        · rcases hB y z with z | z
          · exact n (.inr ⟨i, z⟩)
          · rw [z] at q; cases q
        · exact n (.inr ⟨j, z⟩), kk y o (fun z => n (.inr ⟨i, z⟩)) q⟩
    rw [hf] at ow2
    obtain ⟨S3, _, fo3⟩ := S.change (p' := .obj c' (putA f (.ol []) fs)) ei w1 (List.nodup_cons.mpr ⟨naB, nb⟩) hB kk ⟨dx, _, B2, rfl, upd_same, OwnF.mono ev (fun _ _ => rfl) ow2⟩
    refine ⟨.ref a, w1, a, _, dx, gs, rfl, by rw [upd_ne hal]; exact hH, hc, hn, by rw [ow.len]; exact z2, ?_⟩
    exact (show KS G Fo A H D (.nx, sl.set i (.ow b (.obj c' (putA f (.ol []) fs)))) from h2) _ _ σ ⟨S3, ev, fo3⟩
theorem rs_fapp (i j : Nat) {ci f : Nat} {fn x y : Str} {px py apos fpos cpos epos : Pos} (hu : X.A.units + 64 < cLine) (hc : Cls X.K (G.CA ci)) (hn : NoAttr X.K (G.CA ci) fn) (hf : G.FN f = fn) (hN : X.N[i]? = some x := by rfl) (hN2 : X.N[j]? = some y := by rfl) (hv : Vis X.env.scope x := by first | exact Or.inl rfl | exact Or.inr (Or.inl rfl) | exact Or.inr (Or.inr rfl)) (hv2 : Vis X.env.scope y := by first | exact Or.inl rfl | exact Or.inr (Or.inl rfl) | exact Or.inr (Or.inr rfl))
    (hd : (x == ("__debug__" : Str)) = false := by decide) (hcd : (x == ("__classdict__" : Str)) = false := by decide) (hd2 : (y == ("__debug__" : Str)) = false := by decide) (hcd2 : (y == ("__classdict__" : Str)) = false := by decide) (hb : attributeBase (.Name x px) fn X.env (eval (.Name x px) X.env) = eval (.Name x px) X.env := by rfl)
    (hbase : attributeBase (.Attribute (.Name x px) fn fpos) "append" X.env (eval (.Attribute (.Name x px) fn fpos) X.env) = eval (.Attribute (.Name x px) fn fpos) X.env := by rfl)
    (hfew : ((backTo cpos (starEach [.Name y py] X.env)).all (fun x => !x.1) && (backToKw cpos (keywordEach [] X.env)).all (fun x => x.1.isSome) && decide (([.Name y py] : List Expr).length + ([] : List Keyword).length + (if ([] : List Keyword).isEmpty then 0 else 1) < 30)) = true := by rfl)
    (hline : (apos.endLine == cpos.line) = true := by rfl) (hs : starEach [.Name y py] X.env = (false, eval (.Name y py) X.env) :: starEach [] X.env := by rfl) (hplain : (backTo cpos (starEach [] X.env)).any (·.1) = false := by rfl) (hsw : swapsWith (.Call (.Attribute (.Attribute (.Name x px) fn fpos) "append" apos) [.Name y py] [] cpos) none epos.line X.env = pure false := by rfl) (hK : G.K = X.K := by rfl) :
    RS G T cf wf X (.Expr (.Call (.Attribute (.Attribute (.Name x px) fn fpos) "append" apos) [.Name y py] [] cpos) epos) (.fapp i ci f j) :=
  PS.imp (ps_expr (pe_bm PySem.F.plainAttrs_list PySem.F.slot_list_append PySem.F.type_list_append (mtBm hu .append) (pe_fld (pe_var hN hv hd hcd) hb) (pa_cons (pe_var hN2 hv2 hd2 hcd2) pa_nil hs) hbase hfew hline hs hplain) hsw) fun D σ H h => by
  obtain ⟨Fo, A, sl, S, h⟩ := h
  rw [evS] at h
  cases ei : sl[i]? with
  | none => rw [ei] at h; exact h.elim
  | some w =>
    cases ej : sl[j]? with
    | none => rw [ei, ej] at h; cases w <;> first | exact h.elim | (rename_i b pp; cases pp <;> exact h.elim)
    | some u =>
      rw [ei, ej] at h
      cases w <;> first | exact (show False from h).elim | skip
      rename_i b pp
      cases pp <;> first | exact (show False from h).elim | skip
      rename_i c' fs
      cases u <;> first | exact (show False from h).elim | skip
      rename_i d
      obtain ⟨z1, h2⟩ := if_satR h
      clear h
      subst z1
      cases el : fs.lookup f with
      | none => rw [el] at h2; exact h2.elim
      | some q =>
        rw [el] at h2
        cases q <;> first | exact (show False from h2).elim | skip
        rename_i xs
        obtain ⟨hz, h3⟩ := if_satR h2
        clear h2
        obtain ⟨a, w1, dx, gs, B', hA, hH, ow⟩ := S.ow i b _ ei
        have ndA := S.nd i
        rw [hA] at ndA
        obtain ⟨nda, nd'⟩ := List.nodup_cons.mp ndA
        obtain ⟨yv, y1, y2⟩ := S.va j d ej
        obtain ⟨l, us, g1, g2, g3, g4, g5⟩ := ownF_app ow nd' el
        have hal : a ≠ l := fun z => nda (by rw [z]; exact g2)
        have hB : ∀ y ∈ a :: B', y ∈ A i ∨ H y = none := fun y hy => .inl (by rw [hA]; exact hy)
        have kk : ∀ y o, y ∉ A i → H y = some o → upd H l (.lst (us ++ [yv])) y = some o := fun y o n q => by
          rw [upd_ne fun z => n (by rw [hA, z]; exact List.mem_cons_of_mem _ g2)]; exact q
        have ev : Same (vis H Fo A) (vis (upd H l (.lst (us ++ [yv]))) Fo (putB A i (a :: B'))) := hide_same fun y o n q => ⟨fun z => by
          rcases z with z | ⟨k, z⟩
          · exact n (.inl z)
          · rcases mem_putB z with ⟨_, z⟩ | ⟨_, z⟩
            · exact n (.inr ⟨i, by rw [hA]; exact z⟩)
            · exact n (.inr ⟨k, z⟩), kk y o (fun z => n (.inr ⟨i, z⟩)) q⟩
        obtain ⟨S3, _, fo3⟩ := S.change (p' := .obj c' (putA f (.ol (xs ++ [d])) fs)) ei w1 ndA hB kk ⟨dx, gs, B', rfl, by rw [upd_ne hal]; exact hH, OwnF.mono ev (fun _ _ => rfl) (g5 yv d y2)⟩
        rw [hf] at g1
        refine ⟨.ref a, w1, a, _, dx, gs, .ref l, rfl, hH, hc, hn, g1, .inl ⟨rfl, us, SqL.of g3⟩, yv, y1, l, us, yv, rfl, rfl, g3, by rw [g4.len]; exact hz, ?_⟩
        exact (show KS G Fo A H D (.nx, sl.set i (.ow b (.obj c' (putA f (.ol (xs ++ [d])) fs)))) from h3) _ _ σ ⟨S3, ev, fo3⟩
end
end Pf

/-! Pf17: a list or an instance looked at while frozen, with one flat list that may change -/
namespace Pf
open PySem L2
section
variable {G : Gx} {T : Tab} {cf : CF} {wf : Nat} {Fo : Fx} {A A1 A2 A' : Nat → List Addr} {H H1 H2 H' Hs Hs' : Hp} {σ σ1 σ2 : L2.St} {sl sl1 sl2 sl' : Sls} {B B1 B2 B' : List Addr} {v : V} {r : Rv} {vs : List V} {rs : List Rv}
variable {X : Cx} {a b c e o tg it : Expr} {es : List Expr} {pa pb pc pe : PE} {ps : PEs} {pos p apos : Pos} {D : Ends} {st : Stmt}
/-- what is hidden then -/
def fzK (Fo : Fx) (A : Nat → List Addr) (i j : Nat) : Fx := ⟨fun x => Fo x ∨ ∃ k, k ≠ i ∧ k ≠ j ∧ x ∈ A k, Fo.ro⟩
def onA (A : Nat → List Addr) (j : Nat) : Nat → List Addr := fun k => if k = j then A j else []
theorem mem_onA {j k : Nat} {x : Addr} (h : x ∈ onA A j k) : k = j ∧ x ∈ A j := by
  unfold onA at h
  by_cases c : k = j
  · rw [if_pos c] at h; exact ⟨c, h⟩
  · rw [if_neg c] at h; cases h
theorem SR.frozenK {i j : Nat} {bb bj : Bool} {pp pj : OP} (S : SR G Fo H σ sl A) (hi : sl[i]? = some (.ow bb pp)) (hj : sl[j]? = some (.ow bj pj)) (nij : i ≠ j) :
    SR G (fzK Fo A i j) H σ (((hidS sl).set i (.va pp.d)).set j (.ow bj pj)) (onA A j) := by
  have hd : ∀ x, Hd (fzK Fo A i j) (onA A j) x → Hd Fo A x := fun x h => by
    rcases h with (h | ⟨k, _, _, h⟩) | ⟨k, h⟩
    · exact .inl h
    · exact .inr ⟨k, h⟩
    · exact .inr ⟨j, (mem_onA h).2⟩
  have ev : Same (vis H Fo A) (vis H (fzK Fo A i j) (onA A j)) := hide_mono hd
  have hid : ∀ (k : Nat) (y : Sl), ((hidS sl).set i (.va pp.d))[k]? = some y → (k = i ∧ y = .va pp.d) ∨ (k ≠ i ∧ ((∃ d, y = .va d ∧ sl[k]? = some (.va d)) ∨ y = .un)) := fun k y h => by
    rcases get_set h with ⟨c, z⟩ | ⟨c, z⟩
    · exact .inl ⟨c, z.symm⟩
    · refine .inr ⟨c, ?_⟩
      rw [hidS_get] at z
      cases q : sl[k]? with
      | none => rw [q] at z; cases z
      | some w =>
        rw [q] at z
        cases w with
        | un => cases z; exact .inr rfl
        | ow _ _ => cases z; exact .inr rfl
        | va d => cases z; exact .inl ⟨d, rfl, rfl⟩
  refine ⟨by rw [List.length_set, List.length_set, hidS_len]; exact S.len, fun k d h => ?_, fun k b p h => ?_, fun k h => ?_, fun k => ?_, fun k l x n hk hl => ?_, fun k x hx z => ?_, fun x h => ?_, fun k p h => ?_⟩
  · rcases get_set h with ⟨c, z⟩ | ⟨c, z⟩
    · cases z
    · rcases hid k _ z with ⟨c2, z2⟩ | ⟨c2, ⟨d', z2, z3⟩ | z2⟩
      · cases z2
        subst c2
        obtain ⟨a, hσ, o⟩ := S.ow k bb pp hi
        refine ⟨.ref a, hσ, o.rep ev fun b hb o ho => ?_⟩
        show hide H _ b = _
        rw [hide_no fun z => ?_]
        · exact ho
        · rcases z with (z | ⟨l, hl, _, z⟩) | ⟨l, z⟩
          · exact S.fd k b hb z
          · exact S.dj l k b hl z hb
          · exact S.dj k j b nij hb (mem_onA z).2
      · cases z2
        obtain ⟨w, w1, w2⟩ := S.va k _ z3
        exact ⟨w, w1, w2.mono ev⟩
      · cases z2
  · rcases get_set h with ⟨c, z⟩ | ⟨c, z⟩
    · cases z
      subst c
      obtain ⟨a, w1, w2⟩ := S.ow k bj pj hj
      refine ⟨a, w1, ?_⟩
      have e : onA A k k = A k := if_pos rfl
      rw [e]
      exact w2.mono ev fun _ _ => rfl
    · rcases hid k _ z with ⟨c2, z2⟩ | ⟨c2, ⟨d', z2, z3⟩ | z2⟩ <;> cases z2
  · have n : k ≠ j := fun c => by
      subst c
      have hl : k < ((hidS sl).set i (.va pp.d)).length := by
        rw [List.length_set, hidS_len]
        exact (List.getElem?_eq_some_iff.mp hj).1
      exact h bj pj (List.getElem?_set_self hl)
    exact if_neg n
  · unfold onA
    split
    · exact S.nd j
    · exact List.nodup_nil
  · exact n ((mem_onA hk).1.trans (mem_onA hl).1.symm)
  · obtain ⟨h1, h2⟩ := mem_onA hx
    rcases z with z | ⟨l, _, hl, z⟩
    · exact S.fd j x h2 z
    · exact S.dj l j x hl z h2
  · rcases h with h | ⟨l, _, _, h⟩
    · exact S.fa x h
    · obtain ⟨o, e⟩ := S.there h
      rw [e]; simp
  · rcases get_set h with ⟨c, z⟩ | ⟨c, z⟩
    · cases z
      subst c
      exact S.ro k pj hj
    · rcases hid k _ z with ⟨c2, z2⟩ | ⟨c2, ⟨d', z2, z3⟩ | z2⟩ <;> cases z2
theorem SR.thawK {i j : Nat} {bb bj : Bool} {pp pj pj' : OP} {q2 : Sls} (S : SR G Fo H σ sl A) (hi : sl[i]? = some (.ow bb pp)) (hj : sl[j]? = some (.ow bj pj)) (nij : i ≠ j) (hf : pj'.flat = true) (hq : q2[j]? = some (.ow bj pj'))
    (P : Post G (fzK Fo A i j) (onA A j) H B A' H' σ q2) : Post G Fo A H B (fun k => if k = j then A' j else A k) H' σ (sl.set j (.ow bj pj')) := by
  have vz : ∀ x o, ¬ Fo x → (∀ k, k ≠ i → x ∉ A k) → H x = some o → H' x = some o ∧ x ∉ B ∧ x ∉ A' j := fun x o n1 n2 e => by
    have h1 : vis H (fzK Fo A i j) (onA A j) x = some o := by
      show hide H _ x = _
      rw [hide_no fun z => ?_]
      · exact e
      · rcases z with (z | ⟨k, hk, _, z⟩) | ⟨k, z⟩
        · exact n1 z
        · exact n2 k hk z
        · exact n2 j nij.symm (mem_onA z).2
    obtain ⟨n3, e2⟩ := hide_some (P.ext x o h1)
    exact ⟨e2, fun z => n3 (.inl (.inr z)), fun z => n3 (.inr ⟨j, z⟩)⟩
  have keep : ∀ k x, k ≠ j → x ∈ A k → H' x = H x ∧ x ∉ B ∧ x ∉ A' j := fun k x hkj hx => by
    by_cases c : k = i
    · subst c
      obtain ⟨o, e⟩ := S.there hx
      obtain ⟨z1, z2, z3⟩ := vz x o (S.fd k x hx) (fun l hl z => S.dj l k x hl z hx) e
      exact ⟨by rw [z1, e], z2, z3⟩
    · have hfo : fzK Fo A i j x := .inr ⟨k, c, hkj, hx⟩
      exact ⟨P.fo x hfo, fun z => P.out x z hfo, fun z => P.st.fd j x z (.inl hfo)⟩
  have mA : ∀ {k : Nat} {x : Addr}, x ∈ (if k = j then A' j else A k) → (k = j ∧ x ∈ A' j) ∨ (k ≠ j ∧ x ∈ A k) := fun {k x} h => by
    by_cases c : k = j
    · rw [if_pos c] at h; exact .inl ⟨c, h⟩
    · rw [if_neg c] at h; exact .inr ⟨c, h⟩
  have ev : Same (vis H Fo A) (vis H' (U Fo B) (fun k => if k = j then A' j else A k)) := hide_same fun x o n e => by
    obtain ⟨z1, z2, z3⟩ := vz x o (fun z => n (.inl z)) (fun k _ z => n (.inr ⟨k, z⟩)) e
    refine ⟨fun z => ?_, z1⟩
    rcases z with (z | z) | ⟨k, z⟩
    · exact n (.inl z)
    · exact z2 z
    · rcases mA z with ⟨_, z⟩ | ⟨_, z⟩
      · exact z3 z
      · exact n (.inr ⟨k, z⟩)
  obtain ⟨aj, j1, j2⟩ := P.st.ow j bj pj' hq
  have hjl := (List.getElem?_eq_some_iff.mp hj).1
  refine ⟨⟨by rw [List.length_set]; exact S.len, fun k d h => ?_, fun k b p h => ?_, fun k h => ?_, fun k => ?_, fun k l x n hk hl => ?_, fun k x hx z => ?_, fun x z => ?_, fun k p h => ?_⟩, P.nd, fun x hx z => P.out x hx (.inl z), ev, fun x hx => P.fo x (.inl hx)⟩
  · rcases get_set h with ⟨c, z⟩ | ⟨c, z⟩
    · cases z
    · obtain ⟨w, w1, w2⟩ := S.va k d z
      exact ⟨w, w1, w2.mono ev⟩
  · show ∃ a, _ ∧ Own G _ H' p a (if k = j then A' j else A k)
    rcases get_set h with ⟨c, z⟩ | ⟨c, z⟩
    · cases z
      rw [if_pos c, c]
      exact ⟨aj, j1, own_flat hf j2⟩
    · rw [if_neg c]
      obtain ⟨w, w1, w2⟩ := S.ow k b p z
      exact ⟨w, w1, w2.mono ev fun x hx => (keep k x c hx).1⟩
  · have n : k ≠ j := fun c => by
      subst c
      exact h bj pj' (List.getElem?_set_self hjl)
    show (if k = j then A' j else A k) = []
    rw [if_neg n]
    exact S.no k fun b p z => h b p (by rw [List.getElem?_set_ne n.symm]; exact z)
  · show (if k = j then A' j else A k).Nodup
    split
    · exact P.st.nd j
    · exact S.nd k
  · rcases mA hk with ⟨c1, h1⟩ | ⟨c1, h1⟩ <;> rcases mA hl with ⟨c2, h2⟩ | ⟨c2, h2⟩
    · exact n (c1.trans c2.symm)
    · exact (keep l x c2 h2).2.2 h1
    · exact (keep k x c1 h1).2.2 h2
    · exact S.dj k l x n h1 h2
  · rcases mA hx with ⟨c1, h1⟩ | ⟨c1, h1⟩
    · rcases z with z | z
      · exact P.st.fd j x h1 (.inl (.inl z))
      · exact P.st.fd j x h1 (.inr z)
    · rcases z with z | z
      · exact S.fd k x h1 z
      · exact (keep k x c1 h1).2.1 z
  · rcases z with z | z
    · rw [P.fo x (.inl z)]; exact S.fa x z
    · exact P.st.fa x (.inr z)
  · rcases get_set h with ⟨c, z⟩ | ⟨c, z⟩
    · cases z
      have := P.st.ro j pj' hq
      rw [c]
      exact this
    · exact S.ro k p z
theorem rt_frzK (i j : Nat) {p : PE} (hp : p.tst = false) (he : RT G T cf X e p) : RT G T cf X e (.frzK i j p) := PT.imp he fun σ H Q h => by
  obtain ⟨Fo, A, sl, S, h⟩ := h
  rw [evT_of rfl] at h
  rw [evE] at h
  cases ei : sl[i]? with
  | none => rw [ei] at h; exact h.elim
  | some y =>
    cases ej : sl[j]? with
    | none => rw [ei, ej] at h; cases y <;> exact h.elim
    | some u =>
      rw [ei, ej] at h
      cases y <;> first | exact (show False from h).elim | skip
      rename_i bb pp
      cases u <;> first | exact (show False from h).elim | skip
      rename_i bj pj
      have h := Rs.sat_bind.mp h
      obtain ⟨nij, h⟩ := if_satR h
      refine ⟨_, _, _, S.frozenK ei ej nij, ?_⟩
      rw [evT_of hp]
      refine Rs.sat_bind.mpr (Rs.sat_mono (Rs.sat_bind.mp h) fun q h => ?_)
      obtain ⟨hf, h⟩ := if_satR h
      cases eq : q.2[j]? with
      | none => rw [eq] at h; exact h.elim
      | some z =>
        rw [eq] at h
        cases z <;> first | exact (show False from h).elim | skip
        rename_i b' pj'
        obtain ⟨⟨z1, z2⟩, h2⟩ := if_satR h
        subst z1
        have hv : ∀ s, view s q.1 = view q.2 q.1 := fun s => by
          cases q1 : q.1 with
          | va d => rfl
          | fr p => rfl
          | s j => rw [q1] at hf; cases hf
          | pr _ _ => rw [q1] at hf; cases hf
        have h3 : Rs.sat ((Rs.of (view (sl.set j (.ow b' pj')) q.1)).bind fun x => (boolD x).bind fun k => .ok (k, sl.set j (.ow b' pj'))) (KT G Fo A H σ Q) := h2
        rw [hv] at h3
        refine Rs.sat_bind.mpr (Rs.sat_mono (Rs.sat_bind.mp h3) fun x h => Rs.sat_bind.mpr (Rs.sat_mono (Rs.sat_bind.mp h) fun k h => ?_))
        have h : KT G Fo A H σ Q (k, sl.set j (.ow b' pj')) := h
        exact fun H' A' P => h H' _ (S.thawK ei ej nij z2 eq P)
end
end Pf

/-! Pf18: dicts whose keys are tuples of ints -/
namespace Pf
open PySem L2
section
variable {G : Gx} {T : Tab} {cf : CF} {wf : Nat} {Fo : Fx} {A A1 A2 A' : Nat → List Addr} {H H1 H2 H' Hs Hs' : Hp} {σ σ1 σ2 : L2.St} {sl sl1 sl2 sl' : Sls} {B B1 B2 B' : List Addr} {v : V} {r : Rv} {vs : List V} {rs : List Rv}
variable {X : Cx} {a b c e o tg it : Expr} {es : List Expr} {pa pb pc pe pk : PE} {ps : PEs} {pos p apos : Pos} {E : Ends} {st : Stmt} {sts : List Stmt} {p1 : PS} {p2 : PSs}
abbrev kyI (ns : List Int) : List L2.Key := ns.map Sum.inl
theorem kyI_inj {a b : List Int} (h : kyI a = kyI b) : a = b := by
  have : (a.map (Sum.inl : Int → L2.Key)) = b.map Sum.inl := h
  exact List.map_inj_right (fun x y h => by cases h; rfl) |>.mp this
theorem kyI_kV (ns : List Int) : (kyI ns).map kV = ns.map V.int := by
  unfold kyI
  rw [List.map_map]
  rfl
theorem lookD_cons (k : List Int) (d : Pf.D) (r : List (List Int × Pf.D)) (ns : List Int) : lookD ((k, d) :: r) ns = if k = ns then some d else lookD r ns := by
  unfold lookD
  rw [List.find?_cons]
  by_cases c : k = ns
  · simp [c]
  · simp [c]
theorem RepK.len {Hs : Hp} : ∀ {kvs : List (List Int × Pf.D)} {ws : List (List L2.Key × V)}, RepK G Hs ws kvs → ws.length = kvs.length
  | [], ws, h => by rw [show ws = [] from h]; rfl
  | (k, d) :: kvs, ws, h => by
    obtain ⟨v, r, e1, _, e3⟩ := h
    subst e1
    rw [List.length_cons, List.length_cons, RepK.len e3]
theorem RepK.val {Hs : Hp} (ns : List Int) : ∀ {kvs : List (List Int × Pf.D)} {ws : List (List L2.Key × V)}, RepK G Hs ws kvs → match lookD kvs ns with
    | some d => ∃ v, valV ws (kyI ns) = some v ∧ Rep G Hs v d
    | none => valV ws (kyI ns) = none
  | [], ws, h => by rw [show ws = [] from h]; exact valV_nil
  | (k, d) :: kvs, ws, h => by
    obtain ⟨v, r, e1, e2, e3⟩ := h
    subst e1
    rw [lookD_cons]
    by_cases c : k = ns
    · rw [if_pos c]
      subst c
      exact ⟨v, valV_pos rfl, e2⟩
    · rw [if_neg c]
      have n : ¬ ((kyI k, v).1 = kyI ns) := fun z => c (kyI_inj z)
      have := RepK.val ns e3
      rw [valV_neg (p := (kyI k, v)) n]
      exact this
theorem RepK.any {Hs : Hp} (ns : List Int) : ∀ {kvs : List (List Int × Pf.D)} {ws : List (List L2.Key × V)}, RepK G Hs ws kvs → (ws.any fun kv => decide (kv.1 = kyI ns)) = kvs.any fun kv => decide (kv.1 = ns)
  | [], ws, h => by rw [show ws = [] from h]; rfl
  | (k, d) :: kvs, ws, h => by
    obtain ⟨v, r, e1, e2, e3⟩ := h
    subst e1
    rw [List.any_cons, List.any_cons, RepK.any ns e3]
    congr 1
    by_cases c : k = ns
    · subst c; simp
    · rw [decide_eq_false c, decide_eq_false fun z => c (kyI_inj z)]
theorem RepK.repl {Hs : Hp} (ns : List Int) {v : V} {d : Pf.D} (q : Rep G Hs v d) : ∀ {kvs : List (List Int × Pf.D)} {ws : List (List L2.Key × V)}, RepK G Hs ws kvs → RepK G Hs (ws.map fun kv => if kv.1 = kyI ns then (kv.1, v) else kv) (kvs.map fun kv => if kv.1 = ns then (kv.1, d) else kv)
  | [], ws, h => by rw [show ws = [] from h]; rfl
  | (k, d') :: kvs, ws, h => by
    obtain ⟨v', r, e1, e2, e3⟩ := h
    subst e1
    rw [List.map_cons, List.map_cons]
    have ih := RepK.repl ns q e3
    by_cases c : k = ns
    · subst c
      simp only [if_true]
      exact ⟨v, _, rfl, q, ih⟩
    · have n : ¬ (kyI k = kyI ns) := fun z => c (kyI_inj z)
      simp only [if_neg c, if_neg n]
      exact ⟨v', _, rfl, e2, ih⟩
theorem RepK.app {Hs : Hp} (ns : List Int) {v : V} {d : Pf.D} (q : Rep G Hs v d) : ∀ {kvs : List (List Int × Pf.D)} {ws : List (List L2.Key × V)}, RepK G Hs ws kvs → RepK G Hs (ws ++ [(kyI ns, v)]) (kvs ++ [(ns, d)])
  | [], ws, h => by rw [show ws = [] from h]; exact ⟨v, [], rfl, q, rfl⟩
  | (k, d') :: kvs, ws, h => by
    obtain ⟨v', r, e1, e2, e3⟩ := h
    subst e1
    exact ⟨v', _, rfl, e2, RepK.app ns q e3⟩
theorem RepK.put {Hs : Hp} (ns : List Int) {v : V} {d : Pf.D} (q : Rep G Hs v d) {kvs : List (List Int × Pf.D)} {ws : List (List L2.Key × V)} (h : RepK G Hs ws kvs) : RepK G Hs (putK ws (kyI ns) v) (putD kvs ns d) := by
  unfold putK putD
  rw [h.any ns]
  split
  · exact h.repl ns q
  · exact h.app ns q
theorem key_rep {Hs : Hp} {d : Pf.D} {ns : List Int} (hs : Same Hs H) (k : keyOf d = some ns) (h : RepV G Hs H v d) : ∃ q, v = .ref q ∧ H q = some (.tup ((kyI ns).map kV)) := by
  cases d with
  | tup xs =>
    obtain ⟨q, ys, e1, e2, e3⟩ := (show Rep G Hs v (.tup xs) from h)
    have e4 := e3.ints k
    subst e4
    exact ⟨q, e1, by rw [kyI_kV]; exact hs _ _ e2⟩
  | _ => cases k
theorem out_dct (S : SR G Fo H σ sl A) {p : Addr} (hp : H p = none) :
    Post G Fo A H [p] A (upd H p (.dT [])) σ sl ∧ RvR G (vis (upd H p (.dT [])) (U Fo [p]) A) (upd H p (.dT [])) σ [p] (.ref p) (.fr (.dct [])) := by
  have P := S.grow (H' := upd H p (.dT [])) (B := [p]) (same_upd hp) (by simp) fun x hx => by
    have e : x = p := by simpa using hx
    subst e
    exact ⟨hp, by rw [upd_same]; simp⟩
  exact ⟨P, p, rfl, rfl, [], upd_same, rfl⟩
theorem re_dnew : RE G T cf X (.Dict [] [] pos) .dnew := PE.imp pe_dnewT fun σ H Q h => by
  obtain ⟨Fo, A, sl, S, h⟩ := h
  unfold evE at h
  intro p hp
  obtain ⟨P, R⟩ := out_dct S hp
  exact (show KE G Fo A H σ Q (.fr (.dct []), sl) from h) _ _ _ _ P R
theorem din_i {i : Nat} {Q : VK} (h : tE G T cf (.din i pk) σ H Q) : tDIn (tE G T cf pk) (tE G T cf (.var i)) σ H Q := by
  obtain ⟨Fo, A, sl, S, h⟩ := h
  unfold evE at h
  refine ⟨Fo, A, sl, S, Rs.sat_mono (Rs.sat_bind.mp h) fun p h H1 A1 B1 y P1 R1 => ?_⟩
  obtain ⟨d, ed, h⟩ := Rs.of_sat (Rs.sat_bind.mp h)
  obtain ⟨ns, ek, h⟩ := Rs.of_sat (Rs.sat_bind.mp h)
  cases ei : p.2[i]? with
  | none => rw [ei] at h; exact h.elim
  | some x =>
    rw [ei] at h
    cases x with
    | un => exact h.elim
    | va _ => exact h.elim
    | ow b q =>
      cases q with
      | lst _ => exact h.elim
      | obj _ _ => exact h.elim
      | dcn _ => exact h.elim
      | dct kvs =>
        refine ⟨U Fo B1, A1, p.2, P1.st, ?_⟩
        unfold evE
        rw [ei]
        intro H2 A2 B2 x P2 R2
        obtain ⟨P', S', ev⟩ := (P1.trans P2).opn
        obtain ⟨a, w1, hA, ws, hH, rk⟩ := S'.ow i b _ ei
        have w2 := R2.2
        rw [w1] at w2
        have w2 : x = .ref a := by injection w2 with w2; injection w2 with w2; exact w2.symm
        obtain ⟨q, eq, hq⟩ := key_rep hide_sub ek ((R1.later P2).view P2.st ed)
        subst eq
        refine ⟨a, _, w2, DGet.t hH hq, ?_⟩
        have hv := rk.val ns
        have hs : (valV ws (kyI ns)).isSome = (lookD kvs ns).isSome := by
          cases el : lookD kvs ns with
          | none => rw [el] at hv; rw [hv]; rfl
          | some d' => rw [el] at hv; obtain ⟨u, hu, _⟩ := hv; rw [hu]; rfl
        rw [hs]
        exact KE.va (sl1 := p.2) (d := .bl _) h P' rfl
theorem re_din (i : Nat) (ha : RE G T cf X a pk) (hb : RE G T cf X b (.var i)) (hu : X.A.units + 65 < cLine) (hm : behindInMarks .In b = false := by first | exact nobehind _ (by decide) (by decide) | rfl) : RE G T cf X (.Compare a [.In] [b] pos) (.din i pk) :=
  PE.imp (pe_cmp (pc_din (by omega) ha hb) hm) fun _ _ _ => din_i
theorem rt_din (i : Nat) (ha : RE G T cf X a pk) (hb : RE G T cf X b (.var i)) (hu : X.A.units + 65 < cLine) (hm : behindInMarks .In b = false := by first | exact nobehind _ (by decide) (by decide) | rfl) : RT G T cf X (.Compare a [.In] [b] pos) (.din i pk) :=
  PT.imp (pt_cmp (pc_din (by omega) ha hb) hm) fun σ H Q q => by
    have := din_i (val_i rfl q)
    exact this
theorem dget_i {i : Nat} {Q : VK} (h : tE G T cf (.dget i pk) σ H Q) : tDGet2 (tE G T cf (.var i)) (tE G T cf pk) (tE G T cf .cN) σ H Q := by
  obtain ⟨Fo, A, sl, S, h⟩ := h
  unfold evE at h
  cases ei : sl[i]? with
  | none => rw [ei] at h; exact h.elim
  | some x =>
    rw [ei] at h
    cases x with
    | un => exact h.elim
    | va _ => exact h.elim
    | ow b0 q0 =>
      cases q0 with
      | lst _ => exact h.elim
      | obj _ _ => exact h.elim
      | dcn _ => exact h.elim
      | dct kvs0 =>
        refine ⟨Fo, A, sl, S, ?_⟩
        unfold evE
        rw [ei]
        intro H1 A1 B1 x P1 R1
        obtain ⟨P1', S1, _⟩ := P1.opn
        obtain ⟨a, w1, _, ws0, hH0, _⟩ := S1.ow i b0 _ ei
        have w2 := R1.2
        rw [w1] at w2
        have w2 : x = .ref a := by injection w2 with w2; injection w2 with w2; exact w2.symm
        refine ⟨a, w2, .inr ⟨ws0, .inl hH0⟩, Fo, A1, sl, S1, Rs.sat_mono (Rs.sat_bind.mp h) fun p h H2 A2 B2 y P2 R2 => ?_⟩
        obtain ⟨d, ed, h⟩ := Rs.of_sat (Rs.sat_bind.mp h)
        obtain ⟨ns, ek, h⟩ := Rs.of_sat (Rs.sat_bind.mp h)
        cases e2 : p.2[i]? with
        | none => rw [e2] at h; exact h.elim
        | some x2 =>
          rw [e2] at h
          cases x2 with
          | un => exact h.elim
          | va _ => exact h.elim
          | ow b2 q2 =>
            cases q2 with
            | lst _ => exact h.elim
            | obj _ _ => exact h.elim
            | dcn _ => exact h.elim
            | dct kvs =>
              refine ⟨U Fo B2, A2, p.2, P2.st, ?_⟩
              unfold evE
              intro H3 A3 B3 z P3 R3
              obtain ⟨P', S', ev⟩ := (P2.trans P3).opn
              obtain ⟨a', w3, hA, ws, hH, rk⟩ := S'.ow i b2 _ e2
              obtain rfl : a' = a := by
                rw [w1] at w3
                injection w3 with w3; injection w3 with w3; injection w3 with w3; exact w3.symm
              obtain ⟨q, eq, hq⟩ := key_rep hide_sub ek ((R2.later P3).view P3.st ed)
              subst eq
              have hz : z = .non := R3.2
              subst hz
              refine ⟨_, DGet.t hH hq, ?_⟩
              have hv := rk.val ns
              have PP := P1'.and P'
              have h : KE G Fo A H σ Q (.va ((lookD kvs ns).getD .non), p.2) := h
              cases el : lookD kvs ns with
              | none =>
                rw [el] at hv h
                rw [hv]
                exact KE.va (sl1 := p.2) (d := .non) h PP rfl
              | some d' =>
                rw [el] at hv h
                obtain ⟨u, hu, ru⟩ := hv
                rw [hu]
                exact KE.va (sl1 := p.2) (d := d') h PP ru
theorem re_dget (i : Nat) {j : Nat} {npos : Pos} (hu : X.A.units + 65 < cLine) (ho : RE G T cf X o (.var i)) (he : RE G T cf X e pk) (m : M2 X o "get" apos e (.Constant .none j npos) pos := by exact ⟨rfl, rfl, rfl, rfl⟩) :
    RE G T cf X (.Call (.Attribute o "get" apos) [e, .Constant .none j npos] [] pos) (.dget i pk) :=
  PE.imp (pe_dget2 (by omega) ho he re_non m) fun _ _ _ => dget_i
theorem chgD (S : SR G Fo H σ sl A) {i : Nat} {b : Bool} {kvs kvs' : List (List Int × Pf.D)} {a : Addr} {ws : List (List L2.Key × V)} (e : sl[i]? = some (Sl.ow b (.dct kvs))) (ea : σ[i]? = some (some (.ref a))) (hA : A i = [a]) (r : RepK G (vis H Fo A) ws kvs') :
    SR G Fo (upd H a (.dT ws)) σ (sl.set i (.ow b (.dct kvs'))) (putB A i [a]) ∧ Same (vis H Fo A) (vis (upd H a (.dT ws)) Fo (putB A i [a])) ∧ ∀ x, Fo x → upd H a (.dT ws) x = H x := by
  have k : ∀ x o, x ∉ A i → H x = some o → upd H a (.dT ws) x = some o := fun x o n q => by
    rw [upd_ne (fun z => n (by rw [hA, z]; exact List.mem_cons_self))]
    exact q
  have ev : Same (vis H Fo A) (vis (upd H a (.dT ws)) Fo (putB A i [a])) := hide_same fun x o n q => ⟨fun z => by
    rcases z with z | ⟨j, z⟩
    · exact n (.inl z)
    · rcases mem_putB z with ⟨_, z⟩ | ⟨_, z⟩
      · exact n (.inr ⟨i, by rw [hA]; exact z⟩)
      · exact n (.inr ⟨j, z⟩), k x o (fun z => n (.inr ⟨i, z⟩)) q⟩
  refine S.change e ea (by simp) (fun x hx => .inl (by rw [hA]; exact hx)) k ?_
  exact ⟨rfl, ws, upd_same, r.mono ev⟩
theorem rs_setkey (i : Nat) {tpos : Pos} (hu : X.A.units + 65 < cLine) (ho : RE G T cf X a (.var i)) (hb : RE G T cf X b pk) (he : RE G T cf X e pe) (hs : swapsWith e (some (.Subscript a b tpos)) pos.line X.env = pure false := by rfl) :
    RS G T cf wf X (.Assign [.Subscript a b tpos] e pos) (.setkey i pk pe) := PS.imp (ps_dput (by omega) ho hb he hs) fun D σ H h => by
  obtain ⟨Fo, A, sl, S, h⟩ := h
  rw [evS] at h
  refine ⟨Fo, A, sl, S, Rs.sat_mono (Rs.sat_bind.mp h) fun p h H1 A1 B1 v P1 R1 => ?_⟩
  cases ei : p.2[i]? with
  | none => rw [ei] at h; exact h.elim
  | some x =>
    rw [ei] at h
    cases x with
    | un => exact h.elim
    | va _ => exact h.elim
    | ow b0 q0 =>
      cases q0 with
      | lst _ => exact h.elim
      | obj _ _ => exact h.elim
      | dcn _ => exact h.elim
      | dct kvs0 =>
        refine ⟨U Fo B1, A1, p.2, P1.st, ?_⟩
        unfold evE
        rw [ei]
        intro H2 A2 B2 x P2 R2
        obtain ⟨hB2, wx⟩ := R2
        subst hB2
        have P12 : Post G Fo A H B1 A2 H2 σ p.2 := by
          have := P1.trans P2
          rwa [List.append_nil] at this
        have R1' : RvR G (vis H2 (U Fo B1) A2) H2 σ B1 v p.1 := by
          have := R1.later P2
          rwa [U_nil] at this
        refine ⟨U Fo B1, A2, p.2, P12.st, Rs.sat_mono (Rs.sat_bind.mp h) fun q h H3 A3 B3 y P3 R3 => ?_⟩
        have PP := P12.trans P3
        have R1'' := R1'.later P3
        rw [U_app] at R1''
        obtain ⟨P4, ev4⟩ := PP.opnR
        obtain ⟨z, ez, h⟩ := Rs.of_sat (Rs.sat_bind.mp h)
        obtain ⟨d, sl5⟩ := z
        obtain ⟨A5, S5, ev5, rp⟩ := (RvR.same ev4 R1'').settle P4.st P4.out ez
        have P5 := P4.settled S5 ev5
        obtain ⟨kd, ed, h⟩ := Rs.of_sat (Rs.sat_bind.mp h)
        obtain ⟨ns, ek, h⟩ := Rs.of_sat (Rs.sat_bind.mp h)
        obtain ⟨qa, eq, hq⟩ := key_rep hide_sub ek (R3.view P3.st ed)
        subst eq
        cases e5 : sl5[i]? with
        | none => rw [e5] at h; exact h.elim
        | some x5 =>
          rw [e5] at h
          cases x5 with
          | un => exact h.elim
          | va _ => exact h.elim
          | ow b5 q5 =>
            cases q5 with
            | lst _ => exact h.elim
            | obj _ _ => exact h.elim
            | dcn _ => exact h.elim
            | dct kvs =>
              obtain ⟨hz, h⟩ := if_sat h
              obtain ⟨a, w1, hA, ws, hH, rk⟩ := S5.ow i b5 _ e5
              rw [w1] at wx
              have w2 : x = .ref a := by injection wx with w2; injection w2 with w2; exact w2.symm
              obtain ⟨S6, ev6, fo6⟩ := chgD S5 e5 w1 hA (rk.put ns rp)
              refine ⟨a, _, w2, DPut.t hH hq (by rw [rk.len]; exact hz), ?_⟩
              exact h _ _ σ ⟨S6, P5.fw.ext.trans ev6, fun x hx => (fo6 x hx).trans (P5.fo x hx)⟩
end
end Pf

/-! Pf19: dicts whose keys are tuples of single values -/
namespace Pf
open PySem L2
section
variable {G : Gx} {T : Tab} {cf : CF} {wf : Nat} {Fo : Fx} {A A1 A2 A' : Nat → List Addr} {H H1 H2 H' Hs Hs' : Hp} {σ σ1 σ2 : L2.St} {sl sl1 sl2 sl' : Sls} {B B1 B2 B' : List Addr} {v : V} {r : Rv} {vs : List V} {rs : List Rv}
variable {X : Cx} {a b c e o tg it : Expr} {es : List Expr} {pa pb pc pe pk px : PE} {ps : PEs} {pos p apos : Pos} {E : Ends} {st : Stmt} {sts : List Stmt} {p1 : PS} {p2 : PSs} {Kp : Hp → Prop}
theorem lfD_sc {d : Pf.D} {k : Leaf} (h : lfD d = some k) : ∃ v, d.sc = some v ∧ lfV v = some k := by
  cases d <;> first | (cases h; exact ⟨_, rfl, rfl⟩) | cases h
theorem lfDs_scs : ∀ {ks : List Pf.D} {k : List Leaf}, lfDs ks = some k → ∃ vs, Pf.scs ks = some vs ∧ lfVs vs = some k
  | [], k, h => by cases h; exact ⟨[], rfl, rfl⟩
  | d :: ds, k, h => by
    unfold lfDs at h
    cases e1 : lfD d with
    | none => rw [e1] at h; cases h
    | some l =>
      cases e2 : lfDs ds with
      | none => rw [e1, e2] at h; cases h
      | some ls =>
        rw [e1, e2] at h
        cases h
        obtain ⟨v, q1, q2⟩ := lfD_sc e1
        obtain ⟨vs, q3, q4⟩ := lfDs_scs e2
        exact ⟨v :: vs, by unfold Pf.scs; rw [q1, q3], by unfold lfVs; rw [q2, q4]; rfl⟩
theorem keyN_tup {d : Pf.D} {ks : List Pf.D} {k : List Leaf} (h : keyN d = some (ks, k)) : d = .tup ks ∧ lfDs ks = some k := by
  cases d with
  | tup xs =>
    unfold keyN at h
    obtain ⟨k', e1, e2⟩ := Option.map_eq_some_iff.mp h
    cases e2
    exact ⟨rfl, e1⟩
  | _ => cases h
theorem key_repN {Hs : Hp} {d : Pf.D} {ks : List Pf.D} {k : List Leaf} (h : keyN d = some (ks, k)) (r : Rep G Hs v d) : lfDs ks = some k ∧ ∃ q vs, v = .ref q ∧ Pf.scs ks = some vs ∧ lfVs vs = some k ∧ Hs q = some (.tup vs) := by
  obtain ⟨e1, e2⟩ := keyN_tup h
  subst e1
  obtain ⟨q, ys, h1, h2, h3⟩ := r
  obtain ⟨vs, h4, h5⟩ := lfDs_scs e2
  have := h3.scs h4
  subst this
  exact ⟨e2, q, ys, h1, h4, h5, h2⟩
theorem RepN.len {Hs : Hp} : ∀ {kvs : List (List Pf.D × Pf.D)} {xs : List (List Leaf × Addr × Value)}, RepN G Hs xs kvs → xs.length = kvs.length
  | [], xs, h => by rw [show xs = [] from h]; rfl
  | (ks, d) :: kvs, xs, h => by
    obtain ⟨k, q, u, r, vs, v, e1, _, _, _, _, _, _, e7⟩ := h
    subst e1
    rw [List.length_cons, List.length_cons, RepN.len e7]
theorem RepN.ks {Hs : Hp} : ∀ {kvs : List (List Pf.D × Pf.D)} {xs : List (List Leaf × Addr × Value)}, RepN G Hs xs kvs → ∀ x ∈ xs, ∃ vs, lfVs vs = some x.1 ∧ Hs x.2.1 = some (.tup vs)
  | [], xs, h => by rw [show xs = [] from h]; exact fun x hx => by (cases hx)
  | (ks, d) :: kvs, xs, h => by
    obtain ⟨k, q, u, r, vs, v, e1, e2, e3, _, e4, e5, e6, e7⟩ := h
    subst e1
    intro x hx
    rcases List.mem_cons.mp hx with z | z
    · subst z; exact ⟨vs, e3, e4⟩
    · exact RepN.ks e7 x z
theorem RepN.vls {Hs : Hp} : ∀ {kvs : List (List Pf.D × Pf.D)} {xs : List (List Leaf × Addr × Value)}, RepN G Hs xs kvs → ∀ x ∈ xs, ∃ v, RelV v x.2.2
  | [], xs, h => by rw [show xs = [] from h]; exact fun x hx => by (cases hx)
  | (ks, d) :: kvs, xs, h => by
    obtain ⟨k, q, u, r, vs, v, e1, e2, e3, _, e4, e5, e6, e7⟩ := h
    subst e1
    intro x hx
    rcases List.mem_cons.mp hx with z | z
    · subst z; exact ⟨v, e5⟩
    · exact RepN.vls e7 x z
theorem RepN.get {Hs : Hp} : ∀ {kvs : List (List Pf.D × Pf.D)} {xs : List (List Leaf × Addr × Value)} {i : Nat} {ks : List Pf.D} {d : Pf.D}, RepN G Hs xs kvs → kvs[i]? = some (ks, d) → ∃ k q u vs v, xs[i]? = some (k, q, u) ∧ Pf.scs ks = some vs ∧ Hs q = some (.tup vs) ∧ RelV v u ∧ Rep G Hs v d
  | [], _, _, _, _, _, e => by simp at e
  | (ks0, d0) :: kvs, xs, 0, ks, d, h, e => by
    obtain ⟨k, q, u, r, vs, v, e1, e2, e3, _, e4, e5, e6, e7⟩ := h
    subst e1
    simp at e
    obtain ⟨rfl, rfl⟩ := e
    exact ⟨k, q, u, vs, v, rfl, e2, e4, e5, e6⟩
  | (ks0, d0) :: kvs, xs, i + 1, ks, d, h, e => by
    obtain ⟨k, q, u, r, vs, v, e1, e2, e3, _, e4, e5, e6, e7⟩ := h
    subst e1
    obtain ⟨k', q', u', vs', v', q1, q2⟩ := RepN.get (i := i) e7 (by simpa using e)
    exact ⟨k', q', u', vs', v', by simpa using q1, q2⟩
theorem atKey_cons (x : List Leaf × Addr × Value) (xs : List (List Leaf × Addr × Value)) (k : List Leaf) : atKey (x :: xs) k = if x.1 = k then some x.2 else atKey xs k := by
  unfold atKey
  rw [List.find?_cons]
  by_cases c : x.1 = k <;> simp [c]
theorem lookN_cons (ks : List Pf.D) (d : Pf.D) (r : List (List Pf.D × Pf.D)) (k : List Leaf) : lookN ((ks, d) :: r) k = if lfDs ks = some k then some d else lookN r k := by
  unfold lookN
  rw [List.find?_cons]
  by_cases c : lfDs ks = some k <;> simp [c]
theorem RepN.val {Hs : Hp} (k : List Leaf) : ∀ {kvs : List (List Pf.D × Pf.D)} {xs : List (List Leaf × Addr × Value)}, RepN G Hs xs kvs → match lookN kvs k with
    | some d => ∃ u v, (atKey xs k).map (·.2) = some u ∧ RelV v u ∧ Rep G Hs v d
    | none => (atKey xs k).map (·.2) = none
  | [], xs, h => by rw [show xs = [] from h]; rfl
  | (ks, d) :: kvs, xs, h => by
    obtain ⟨k0, q, u, r, vs, v, e1, e2, e3, e3b, e4, e5, e6, e7⟩ := h
    subst e1
    rw [lookN_cons, atKey_cons]
    by_cases c : k0 = k
    · subst c
      rw [if_pos e3b, if_pos rfl]
      exact ⟨u, v, rfl, e5, e6⟩
    · have n : ¬ lfDs ks = some k := fun z => c (by rw [e3b] at z; exact Option.some.inj z)
      rw [if_neg n, if_neg (show ¬ (k0, q, u).1 = k from c)]
      exact RepN.val k e7
theorem RepN.any {Hs : Hp} (k : List Leaf) : ∀ {kvs : List (List Pf.D × Pf.D)} {xs : List (List Leaf × Addr × Value)}, RepN G Hs xs kvs → (atKey xs k).isSome = kvs.any fun kv => decide (lfDs kv.1 = some k)
  | [], xs, h => by rw [show xs = [] from h]; rfl
  | (ks, d) :: kvs, xs, h => by
    obtain ⟨k0, q, u, r, vs, v, e1, e2, e3, e3b, e4, e5, e6, e7⟩ := h
    subst e1
    rw [atKey_cons, List.any_cons]
    by_cases c : k0 = k
    · subst c
      rw [if_pos rfl, decide_eq_true e3b]
      rfl
    · have n : ¬ lfDs ks = some k := fun z => c (by rw [e3b] at z; exact Option.some.inj z)
      rw [if_neg (show ¬ (k0, q, u).1 = k from c), decide_eq_false n, Bool.false_or]
      exact RepN.any k e7
theorem RepN.repl {Hs : Hp} (k : List Leaf) {v : V} {u : Value} {d : Pf.D} (ru : RelV v u) (rv : Rep G Hs v d) : ∀ {kvs : List (List Pf.D × Pf.D)} {xs : List (List Leaf × Addr × Value)}, RepN G Hs xs kvs → RepN G Hs (xs.map (putAt k u)) (kvs.map fun kv => if lfDs kv.1 = some k then (kv.1, d) else kv)
  | [], xs, h => by rw [show xs = [] from h]; rfl
  | (ks, d0) :: kvs, xs, h => by
    obtain ⟨k0, q, u0, r, vs, v0, e1, e2, e3, e3b, e4, e5, e6, e7⟩ := h
    subst e1
    have ih := RepN.repl k ru rv e7
    rw [List.map_cons, List.map_cons]
    by_cases c : k0 = k
    · subst c
      have e : putAt k0 u (k0, q, u0) = (k0, q, u) := if_pos rfl
      rw [e]
      simp only [if_pos e3b]
      exact ⟨k0, q, u, _, vs, v, rfl, e2, e3, e3b, e4, ru, rv, ih⟩
    · have n : ¬ lfDs ks = some k := fun z => c (by rw [e3b] at z; exact Option.some.inj z)
      have e : putAt k u (k0, q, u0) = (k0, q, u0) := if_neg c
      rw [e]
      simp only [if_neg n]
      exact ⟨k0, q, u0, _, vs, v0, rfl, e2, e3, e3b, e4, e5, e6, ih⟩
theorem RepN.app {Hs : Hp} {ks : List Pf.D} {k : List Leaf} {q : Addr} {vs : List V} {v : V} {u : Value} {d : Pf.D} (h2 : Pf.scs ks = some vs) (h3 : lfVs vs = some k) (h3b : lfDs ks = some k) (h4 : Hs q = some (.tup vs)) (ru : RelV v u) (rv : Rep G Hs v d) : ∀ {kvs : List (List Pf.D × Pf.D)} {xs : List (List Leaf × Addr × Value)}, RepN G Hs xs kvs → RepN G Hs (xs ++ [(k, q, u)]) (kvs ++ [(ks, d)])
  | [], xs, h => by rw [show xs = [] from h]; exact ⟨k, q, u, [], vs, v, rfl, h2, h3, h3b, h4, ru, rv, rfl⟩
  | (ks0, d0) :: kvs, xs, h => by
    obtain ⟨k0, q0, u0, r, vs0, v0, e1, e2, e3, e3b, e4, e5, e6, e7⟩ := h
    subst e1
    exact ⟨k0, q0, u0, _, vs0, v0, rfl, e2, e3, e3b, e4, e5, e6, RepN.app h2 h3 h3b h4 ru rv e7⟩
theorem RepN.put {Hs : Hp} {ks : List Pf.D} {k : List Leaf} {q : Addr} {vs : List V} {v : V} {u : Value} {d : Pf.D} (h2 : Pf.scs ks = some vs) (h3 : lfVs vs = some k) (h3b : lfDs ks = some k) (h4 : Hs q = some (.tup vs)) (ru : RelV v u) (rv : Rep G Hs v d) {kvs : List (List Pf.D × Pf.D)} {xs : List (List Leaf × Addr × Value)} (h : RepN G Hs xs kvs) : RepN G Hs (storedH xs k q u) (putN kvs ks k d) := by
  unfold storedH putN
  rw [h.any k]
  split
  · exact h.repl k ru rv
  · exact RepN.app h2 h3 h3b h4 ru rv h
theorem RepN.at {Hs H : Hp} {P : Program} {w : World} {a : Addr} {o : Obj} {kvs : List (List Pf.D × Pf.D)} {xs : List (List Leaf × Addr × Value)} (e : Same Hs H) (D : DLp P w a o xs) (ha : H a = some (dLO a o)) (h : RepN G Hs xs kvs) : DLat P w H a o xs :=
  D.at ha (fun x hx => by
    obtain ⟨vs, h1, h2⟩ := h.ks x hx
    exact ⟨vs, h1, e _ _ h2⟩) h.vls
/-! ### a new dict -/
theorem out_dcn (S : SR G Fo H σ sl A) {p : Addr} (hp : H p = none) (ns : (p == sysModules) = false) :
    Post G Fo A H [p] A (upd H p (dLO p oEmp)) σ sl ∧ RvR G (vis (upd H p (dLO p oEmp)) (U Fo [p]) A) (upd H p (dLO p oEmp)) σ [p] (.ref p) (.fr (.dcn [])) := by
  have P := S.grow (H' := upd H p (dLO p oEmp)) (B := [p]) (same_upd hp) (by simp) fun x hx => by
    have e : x = p := by simpa using hx
    subst e
    exact ⟨hp, by rw [upd_same]; simp⟩
  exact ⟨P, p, rfl, rfl, oEmp, [], upd_same, (dl_new (H := upd H p (dLO p oEmp)) upd_same ns).p, rfl⟩
theorem re_dnewN : RE G T cf X (.Dict [] [] pos) .dnewN := PE.imp pe_dnewL fun σ H Q h => by
  obtain ⟨Fo, A, sl, S, h⟩ := h
  unfold evE at h
  intro p hp ns
  obtain ⟨P, R⟩ := out_dcn S hp ns
  exact (show KE G Fo A H σ Q (.fr (.dcn []), sl) from h) _ _ _ _ P R
/-- what is hidden may be changed -/
theorem Post.touch (P : Post G Fo A H B A' H' σ sl) {p : Addr} (hp : p ∈ B) (u : HO) : Post G Fo A H B A' (upd H' p u) σ sl ∧ Same (vis H' (U Fo B) A') (vis (upd H' p u) (U Fo B) A') := by
  have ev : Same (vis H' (U Fo B) A') (vis (upd H' p u) (U Fo B) A') := hide_same fun b o n e => ⟨n, by
    rw [upd_ne (fun z => n (.inl (.inr (by rw [z]; exact hp))))]
    exact e⟩
  have S := P.st
  have kA : ∀ i, ∀ x ∈ A' i, upd H' p u x = H' x := fun i x hx => upd_ne fun z => S.fd i x hx (.inr (by rw [z]; exact hp))
  refine ⟨⟨⟨S.len, fun i d e => ?_, fun i b q e => ?_, S.no, S.nd, S.dj, S.fd, fun x z => ?_, S.ro⟩, P.nd, P.out, P.ext.trans ev, fun x hx => ?_⟩, ev⟩
  · obtain ⟨w, q1, q2⟩ := S.va i d e
    exact ⟨w, q1, q2.mono ev⟩
  · obtain ⟨w, q1, q2⟩ := S.ow i b q e
    exact ⟨w, q1, q2.mono ev (kA i)⟩
  · by_cases q : x = p
    · rw [q, upd_same]; simp
    · rw [upd_ne q]; exact S.fa x z
  · rw [upd_ne (fun z => P.out p hp (by rw [← z]; exact hx))]
    exact P.fo x hx
theorem ddisp_i {pv : PE} {Q : VK} (h : tE G T cf (.ddispN pk pv) σ H Q) : tDisp1L G.P G.w (tE G T cf pk) (tE G T cf pv) σ H Q := by
  obtain ⟨Fo, A, sl, S, h⟩ := h
  unfold evE at h
  intro p hp ns
  obtain ⟨P0, _⟩ := out_dcn S hp ns
  refine ⟨U Fo [p], A, sl, P0.st, Rs.sat_mono (Rs.sat_bind.mp h) fun p1 h H1 A1 B1 x P1 R1 => ?_⟩
  have P01 := P0.trans P1
  refine ⟨U (U Fo [p]) B1, A1, p1.2, P1.st, Rs.sat_mono (Rs.sat_bind.mp h) fun q1 h H2 A2 B2 y P2 R2 => ?_⟩
  have R1' := R1.later P2
  obtain ⟨r1, s1⟩ := p1
  obtain ⟨r2, s2⟩ := q1
  cases r1 with
  | fr _ => exact h.elim
  | s _ => exact h.elim
  | pr _ _ => exact h.elim
  | va kd =>
    cases r2 with
    | fr _ => exact h.elim
    | s _ => exact h.elim
    | pr _ _ => exact h.elim
    | va d =>
      obtain ⟨kk, ek, h⟩ := Rs.of_sat (Rs.sat_bind.mp h)
      obtain ⟨ks, k⟩ := kk
      obtain ⟨hB1, rx⟩ := R1'
      obtain ⟨hB2, ry⟩ := R2
      subst hB1 hB2
      have P2' : Post G Fo A H [p] A2 H2 σ s2 := by
        have := P01.trans (B2 := []) (A2 := A2) (H2 := H2) (sl2 := s2) (by rw [← U_app]; exact P2)
        simpa using this
      have hpH : H2 p = some (dLO p oEmp) := by
        have e1 := P1.fo p (.inr List.mem_cons_self)
        have e2 := P2.fo p (.inl (.inr List.mem_cons_self))
        rw [e2, e1, upd_same]
      obtain ⟨e3b, q, vs, ex, e2, e3, e4⟩ := key_repN ek rx
      refine ⟨hpH, q, vs, k, ex, hide_sub _ _ e4, e3, fun o' u ru D => ?_⟩
      obtain ⟨P3, ev3⟩ := P2'.touch (p := p) List.mem_cons_self (dLO p o')
      have hv : vis H2 (U (U (U Fo [p]) []) []) A2 = vis H2 (U Fo [p]) A2 := by rw [U_nil, U_nil]
      rw [hv] at rx ry e4
      refine (show KE G Fo A H σ Q (.fr (.dcn [(ks, d)]), s2) from h) _ A2 [p] (.ref p) P3 ⟨p, rfl, rfl, o', _, upd_same, D.p, ?_⟩
      have := RepN.put (G := G) (Hs := vis H2 (U Fo [p]) A2) e2 e3 e3b e4 ru ry (kvs := []) (xs := []) rfl
      exact this.mono ev3
theorem re_ddispN (hu : X.A.units + 65 < cLine) {v : Expr} {pv : PE} (hk : RE G T cf X a pk) (hv : RE G T cf X v pv) (hP : G.P = X.prog := by rfl) (hw : G.w = X.w := by rfl) : RE G T cf X (.Dict [some a] [v] pos) (.ddispN pk pv) :=
  PE.imp (pe_disp1L (by omega) hk hv) fun σ H Q h => by
    rw [← hP, ← hw]
    exact ddisp_i h
/-! ### get -/
theorem dgetN_i {i : Nat} {Q : VK} (h : tE G T cf (.dgetN i pk px) σ H Q) : tDGetL G.P G.w (tE G T cf (.var i)) (tE G T cf pk) (tE G T cf px) σ H Q := by
  obtain ⟨Fo, A, sl, S, h⟩ := h
  unfold evE at h
  cases ei : sl[i]? with
  | none => rw [ei] at h; exact h.elim
  | some x =>
    rw [ei] at h
    cases x with
    | un => exact h.elim
    | va _ => exact h.elim
    | ow b0 q0 =>
      cases q0 with
      | lst _ => exact h.elim
      | obj _ _ => exact h.elim
      | dct _ => exact h.elim
      | dcn kvs0 =>
        refine ⟨Fo, A, sl, S, ?_⟩
        unfold evE
        rw [ei]
        intro H1 A1 B1 x P1 R1
        obtain ⟨P1', S1, _⟩ := P1.opn
        obtain ⟨a, w1, _, o0, xs0, hH0, D0, rk0⟩ := S1.ow i b0 _ ei
        have w2 := R1.2
        rw [w1] at w2
        have w2 : x = .ref a := by injection w2 with w2; injection w2 with w2; exact w2.symm
        refine ⟨a, o0, xs0, w2, rk0.at hide_sub D0 hH0, Fo, A1, sl, S1, Rs.sat_mono (Rs.sat_bind.mp h) fun p h H2 A2 B2 y P2 R2 => ?_⟩
        refine ⟨U Fo B2, A2, p.2, P2.st, Rs.sat_mono (Rs.sat_bind.mp h) fun q h H3 A3 B3 z P3 R3 => ?_⟩
        have R2' := R2.later P3
        obtain ⟨r2, s2⟩ := p
        obtain ⟨r3, s3⟩ := q
        cases r2 with
        | fr _ => exact h.elim
        | s _ => exact h.elim
        | pr _ _ => exact h.elim
        | va kd =>
          cases r3 with
          | fr _ => exact h.elim
          | s _ => exact h.elim
          | pr _ _ => exact h.elim
          | va zd =>
            obtain ⟨kk, ek, h⟩ := Rs.of_sat (Rs.sat_bind.mp h)
            obtain ⟨ks, k⟩ := kk
            obtain ⟨hB2, ry⟩ := R2'
            obtain ⟨hB3, rz⟩ := R3
            subst hB2 hB3
            dsimp only at h
            cases e2 : s3[i]? with
            | none => rw [e2] at h; exact h.elim
            | some x2 =>
              rw [e2] at h
              cases x2 with
              | un => exact h.elim
              | va _ => exact h.elim
              | ow b2 q2 =>
                cases q2 with
                | lst _ => exact h.elim
                | obj _ _ => exact h.elim
                | dct _ => exact h.elim
                | dcn kvs =>
                  have h : KE G Fo A H σ Q (.va ((lookN kvs k).getD zd), s3) := h
                  obtain ⟨P', S', ev⟩ := (P2.trans P3).opn
                  obtain ⟨a', w3, hA, o', xs', hH, D', rk⟩ := S'.ow i b2 _ e2
                  obtain rfl : a' = a := by
                    rw [w1] at w3
                    injection w3 with w3; injection w3 with w3; injection w3 with w3; exact w3.symm
                  have hv : vis H3 (U (U Fo []) []) A3 = vis H3 Fo A3 := by rw [U_nil, U_nil]
                  rw [hv] at ry rz
                  obtain ⟨e3b, q, vs, ex, e4, e5, e6⟩ := key_repN ek ry
                  have PP := P1'.and P'
                  have hval := rk.val k
                  cases el : lookN kvs k with
                  | none =>
                    rw [el] at hval h
                    exact ⟨o', xs', q, vs, k, z, ex, hide_sub _ _ e6, e5, rk.at hide_sub D' hH, by rw [hval]; rfl, KE.va (sl1 := s3) (d := zd) h PP rz⟩
                  | some d' =>
                    rw [el] at hval h
                    obtain ⟨u, v', h1, h2, h3⟩ := hval
                    exact ⟨o', xs', q, vs, k, v', ex, hide_sub _ _ e6, e5, rk.at hide_sub D' hH, by rw [h1]; exact h2, KE.va (sl1 := s3) (d := d') h PP h3⟩
theorem re_dgetN (i : Nat) (hu : X.A.units + 65 < cLine) {x : Expr} (ho : RE G T cf X o (.var i)) (he : RE G T cf X e pk) (hx : RE G T cf X x px) (m : M2 X o "get" apos e x pos := by exact ⟨rfl, rfl, rfl, rfl⟩) (hP : G.P = X.prog := by rfl) (hw : G.w = X.w := by rfl) :
    RE G T cf X (.Call (.Attribute o "get" apos) [e, x] [] pos) (.dgetN i pk px) :=
  PE.imp (pe_dgetL (by omega) ho he hx m) fun σ H Q h => by
    rw [← hP, ← hw]
    exact dgetN_i h
/-! ### store -/
theorem chgN (S : SR G Fo H σ sl A) {i : Nat} {b : Bool} {kvs kvs' : List (List Pf.D × Pf.D)} {a : Addr} {o : Obj} {xs : List (List Leaf × Addr × Value)} (e : sl[i]? = some (Sl.ow b (.dcn kvs))) (ea : σ[i]? = some (some (.ref a))) (hA : A i = [a]) (D : DLp G.P G.w a o xs) (r : RepN G (vis H Fo A) xs kvs') :
    SR G Fo (upd H a (dLO a o)) σ (sl.set i (.ow b (.dcn kvs'))) (putB A i [a]) ∧ Same (vis H Fo A) (vis (upd H a (dLO a o)) Fo (putB A i [a])) ∧ ∀ x, Fo x → upd H a (dLO a o) x = H x := by
  have k : ∀ x u, x ∉ A i → H x = some u → upd H a (dLO a o) x = some u := fun x u n q => by
    rw [upd_ne (fun z => n (by rw [hA, z]; exact List.mem_cons_self))]
    exact q
  have ev : Same (vis H Fo A) (vis (upd H a (dLO a o)) Fo (putB A i [a])) := hide_same fun x u n q => ⟨fun z => by
    rcases z with z | ⟨j, z⟩
    · exact n (.inl z)
    · rcases mem_putB z with ⟨_, z⟩ | ⟨_, z⟩
      · exact n (.inr ⟨i, by rw [hA]; exact z⟩)
      · exact n (.inr ⟨j, z⟩), k x u (fun z => n (.inr ⟨i, z⟩)) q⟩
  refine S.change e ea (by simp) (fun x hx => .inl (by rw [hA]; exact hx)) k ?_
  exact ⟨rfl, o, xs, upd_same, D, r.mono ev⟩
theorem rs_setkeyN (i : Nat) {tpos : Pos} (hu : X.A.units + 65 < cLine) (ho : RE G T cf X a (.var i)) (hb : RE G T cf X b pk) (he : RE G T cf X e pe) (hs : swapsWith e (some (.Subscript a b tpos)) pos.line X.env = pure false := by rfl) (hP : G.P = X.prog := by rfl) (hw : G.w = X.w := by rfl) :
    RS G T cf wf X (.Assign [.Subscript a b tpos] e pos) (.setkeyN i pk pe) := PS.imp (ps_dputL (by omega) ho hb he hs) fun D σ H h => by
  rw [← hP, ← hw]
  obtain ⟨Fo, A, sl, S, h⟩ := h
  rw [evS] at h
  refine ⟨Fo, A, sl, S, Rs.sat_mono (Rs.sat_bind.mp h) fun p h H1 A1 B1 v P1 R1 => ?_⟩
  cases ei : p.2[i]? with
  | none => rw [ei] at h; exact h.elim
  | some x =>
    rw [ei] at h
    cases x with
    | un => exact h.elim
    | va _ => exact h.elim
    | ow b0 q0 =>
      cases q0 with
      | lst _ => exact h.elim
      | obj _ _ => exact h.elim
      | dct _ => exact h.elim
      | dcn kvs0 =>
        refine ⟨U Fo B1, A1, p.2, P1.st, ?_⟩
        unfold evE
        rw [ei]
        intro H2 A2 B2 x P2 R2
        obtain ⟨hB2, wx⟩ := R2
        subst hB2
        have P12 : Post G Fo A H B1 A2 H2 σ p.2 := by
          have := P1.trans P2
          rwa [List.append_nil] at this
        have R1' : RvR G (vis H2 (U Fo B1) A2) H2 σ B1 v p.1 := by
          have := R1.later P2
          rwa [U_nil] at this
        refine ⟨U Fo B1, A2, p.2, P12.st, Rs.sat_mono (Rs.sat_bind.mp h) fun q h H3 A3 B3 y P3 R3 => ?_⟩
        have R1'' := R1'.later P3
        have PP := P12.trans P3
        obtain ⟨r1, s1⟩ := p
        obtain ⟨r3, s3⟩ := q
        cases r1 with
        | fr _ => exact h.elim
        | s _ => exact h.elim
        | pr _ _ => exact h.elim
        | va d =>
          cases r3 with
          | fr _ => exact h.elim
          | s _ => exact h.elim
          | pr _ _ => exact h.elim
          | va kd =>
            obtain ⟨kk, ek, h⟩ := Rs.of_sat (Rs.sat_bind.mp h)
            obtain ⟨ks, k⟩ := kk
            obtain ⟨hB1, rv⟩ := R1''
            obtain ⟨hB3, ry⟩ := R3
            subst hB1 hB3
            dsimp only at h
            cases e5 : s3[i]? with
            | none => rw [e5] at h; exact h.elim
            | some x5 =>
              rw [e5] at h
              cases x5 with
              | un => exact h.elim
              | va _ => exact h.elim
              | ow b5 q5 =>
                cases q5 with
                | lst _ => exact h.elim
                | obj _ _ => exact h.elim
                | dct _ => exact h.elim
                | dcn kvs =>
                  obtain ⟨hz, h⟩ := if_sat h
                  obtain ⟨P5, S5, ev5⟩ := PP.opn
                  have hv : vis H3 (U (U Fo []) []) A3 = vis H3 Fo A3 := by rw [U_nil, U_nil]
                  rw [hv] at rv ry
                  obtain ⟨e3b, qa, vs, ex, e4, e5', e6⟩ := key_repN ek ry
                  obtain ⟨a, w1, hA, ob, xs, hH, Dp, rk⟩ := S5.ow i b5 _ e5
                  rw [w1] at wx
                  have w2 : x = .ref a := by injection wx with w2; injection w2 with w2; exact w2.symm
                  refine ⟨a, ob, xs, qa, vs, k, w2, ex, hide_sub _ _ e6, e5', rk.at hide_sub Dp hH, by rw [rk.len]; exact hz, fun o' u ru D' => ?_⟩
                  obtain ⟨S6, ev6, fo6⟩ := chgN S5 e5 w1 hA D'.p (rk.put e4 e5' e3b e6 ru rv)
                  exact h _ _ σ ⟨S6, P5.fw.ext.trans ev6, fun x hx => (fo6 x hx).trans (P5.fo x hx)⟩
/-! ### for k, v in d.items() -/
theorem walks_itemsL {a : Addr} {o : Obj} {xs : List (List Leaf × Addr × Value)} {kvs : List (List Pf.D × Pf.D)} (ha : Hs a = some (dLO a o)) (r : RepN G Hs xs kvs) : Walks G (ItnL a o xs) (kvs.map fun kv => .tup [.tup kv.1, kv.2]) Hs Kp := by
  have hl : (kvs.map fun kv => Pf.D.tup [.tup kv.1, kv.2]).length = xs.length := by rw [List.length_map, r.len]
  refine ⟨fun i H e _ l => ⟨e _ _ ha, by rw [← hl]; exact l⟩, fun i H e _ l => ⟨e _ _ ha, by rw [← hl]; exact l⟩, fun i H y H' d e _ q z => ?_⟩
  obtain ⟨t, k, qa, u, v, q1, q2, q3, q4, q5⟩ := q
  subst q3 q5
  rw [List.getElem?_map] at z
  obtain ⟨kv, z1, z2⟩ := Option.map_eq_some_iff.mp z
  subst z2
  obtain ⟨ks, d0⟩ := kv
  obtain ⟨k', qa', u', vs', v', g1, g2, g3, g4, g5⟩ := r.get z1
  rw [q1] at g1
  cases g1
  obtain rfl := relV_inj q2 g4
  have k : Same H (upd H t (.tup [.ref qa, v])) := same_upd q4
  refine ⟨k, fun P hP e2 => ?_⟩
  have nt : ¬ P t := fun hp => hP t hp q4
  have e3 : Same Hs (hide (upd H t (.tup [.ref qa, v])) P) := e2.trans (hide_same fun b o n hb => ⟨n, k b o hb⟩)
  exact ⟨t, _, rfl, by rw [hide_no nt, upd_same], ⟨.ref qa, _, rfl, ⟨qa, vs', rfl, e3 _ _ g3, reps_scs g2⟩, v, _, rfl, g5.mono e3, rfl⟩⟩
theorem ri_items {tpos cpos : Pos} {elts : List Expr} {kk : Nat} (he : RE G T cf X e pa) (hbase : attributeBase e "items" X.env (eval e X.env) = eval e X.env := by rfl) (hline : (apos.endLine == cpos.line) = true := by rfl) (hP : G.P = X.prog := by rfl) (hw : G.w = X.w := by rfl) :
    RI G T cf X (.Tuple elts kk tpos) (.Call (.Attribute e "items" apos) [] [] cpos) (.items pa) :=
  PI.imp (pi_itemsL he hbase hline) fun σ H R h => by
    rw [← hP, ← hw]
    obtain ⟨Fo, A, sl, S, h⟩ := h
    unfold evI at h
    refine ⟨Fo, A, sl, S, Rs.sat_mono (Rs.sat_bind.mp h) fun p h H1 A1 B x P R0 => ?_⟩
    obtain ⟨d, sl2, A2, P2, S2, rp, h⟩ := settle1_go P R0 (Rs.sat_bind.mp h)
    cases d <;> first | exact (show False from h).elim | skip
    obtain ⟨a, o, xs, e1, e2, e3, e4⟩ := rp
    exact ⟨a, o, xs, e1, e4.at hide_sub e3 (hide_sub _ _ e2), h _ H1 A2 P2 (walks_itemsL e2 e4)⟩
end
end Pf

/-! Pm1: the evaluator on known states: loops, comprehensions, items -/
namespace Pf
open PySem L2
theorem evF_s (T : Tab) (pr : Nat → CF) (wf n f : Nat) (as : List Sl) : evF T pr wf (n + 1) f as = (match T f with
    | none => .stuck
    | some d => if as.length = d.np then
        (if d.own = true then (endIo (d.io.findIdx? id) as).bind fun _ => (evSs T (evF T pr wf n) wf d.body (as ++ List.replicate (d.ns - d.np) .un)).bind fun q => (endIo (d.io.findIdx? id) q.2).bind fun p => (match q.1 with
          | .nx => .ok (.va .non, p)
          | .ret r => .ok (r, p)
          | _ => .stuck) else pr n f as) else .stuck) := by
  rw [evF]
  all_goals (cases T f <;> rfl)
abbrev il (ns : List Int) : D := .lst (ns.map .int)
theorem ixN_nat {n i : Nat} (h : i < n) : ixN n (i : Nat) = some i := by
  unfold ixN
  rw [if_pos (by omega), if_pos (by omega)]
  simp
@[simp] theorem atI_nat {α : Type} {l : List α} {i : Nat} : atI l (i : Nat) = l[i]? := by
  unfold atI
  by_cases h : i < l.length
  · rw [ixN_nat h]; rfl
  · unfold ixN
    rw [if_pos (by omega), if_neg (by omega), List.getElem?_eq_none (by omega)]
    rfl
@[simp] theorem atI_0 {α : Type} (a : α) (l : List α) : atI (a :: l) 0 = some a := atI_nat (i := 0)
@[simp] theorem atI_1 {α : Type} (a b : α) (l : List α) : atI (a :: b :: l) 1 = some b := atI_nat (i := 1)
@[simp] theorem ixN_0 {n : Nat} : ixN (n + 1) 0 = some 0 := ixN_nat (i := 0) (by omega)
@[simp] theorem ixN_1 {n : Nat} : ixN (n + 2) 1 = some 1 := ixN_nat (i := 1) (by omega)
@[simp] theorem atI_2 {α : Type} (a b c : α) (l : List α) : atI (a :: b :: c :: l) 2 = some c := atI_nat (i := 2)
@[simp] theorem atI_3 {α : Type} (a b c d : α) (l : List α) : atI (a :: b :: c :: d :: l) 3 = some d := atI_nat (i := 3)
@[simp] theorem Rs.of_none {α : Type} : Rs.of (none : Option α) = .stuck := rfl
@[simp] theorem ix_lst (xs : List D) (i : Int) : ixD (.lst xs) (.int i) = Rs.of (atI xs i) := rfl
@[simp] theorem ix_tup (xs : List D) (i : Int) : ixD (.tup xs) (.int i) = Rs.of (atI xs i) := rfl
@[simp] theorem dI (i : Int) : (D.int i).py = .int i := by simp only [D.py]
@[simp] theorem dB (i : Bool) : (D.bl i).py = .bool i := by simp only [D.py]
@[simp] theorem dS (i : Str) : (D.str i).py = .str i := by simp only [D.py]
@[simp] theorem dN : (D.non).py = .none := by simp only [D.py]
@[simp] theorem dL (xs : List D) : (D.lst xs).py = .list (D.pys xs) := by simp only [D.py]
@[simp] theorem dT (xs : List D) : (D.tup xs).py = .tuple (D.pys xs) := by simp only [D.py]
@[simp] theorem pys_int : ∀ ns : List Int, D.pys (ns.map .int) = ns.map .int
  | [] => by simp [D.pys]
  | n :: ns => by simp [D.pys, pys_int ns]
@[simp] theorem pls_int : ∀ ns : List Int, D.pls (ns.map .int) = true
  | [] => by simp [D.pls]
  | n :: ns => by simp [D.pls, D.pl, pls_int ns]
@[simp] theorem dep_int : ∀ ns : List Int, PyData.depthAll (ns.map .int) = 0
  | [] => by simp [PyData.depthAll]
  | n :: ns => by simp [PyData.depthAll, PyData.depth, dep_int ns]
@[simp] theorem eqv_ints : ∀ ns ms : List Int, PyData.eqvAll (ns.map .int) (ms.map .int) = decide (ns = ms)
  | [], [] => by simp [PyData.eqvAll]
  | [], _ :: _ => by simp [PyData.eqvAll]
  | _ :: _, [] => by simp [PyData.eqvAll]
  | n :: ns, m :: ms => by
    simp only [List.map_cons, PyData.eqvAll, PyData.eqv, eqv_ints ns ms, List.cons.injEq]
    by_cases h : n = m <;> by_cases k : ns = ms <;> simp [h, k]
@[simp] theorem eqD_int (a b : Int) : eqD (.int a) (.int b) = .ok (decide (a = b)) := by
  simp [eqD, D.pl, PyData.depth, PyData.eqv]
  by_cases h : a = b <;> simp [h]
@[simp] theorem eqD_str (a b : Str) : eqD (.str a) (.str b) = .ok (decide (a = b)) := by
  simp [eqD, D.pl, PyData.depth, PyData.eqv]
  by_cases h : a = b <;> simp [h]
@[simp] theorem eqD_bl (a b : Bool) : eqD (.bl a) (.bl b) = .ok (a == b) := by
  simp only [eqD, D.pl, dB, PyData.depth, PyData.eqv]
  rfl
@[simp] theorem eqD_il (a b : List Int) : eqD (.lst (a.map .int)) (.lst (b.map .int)) = .ok (decide (a = b)) := by
  simp [eqD, D.pl, PyData.depth, PyData.eqv]
@[simp] theorem eqD_il0 (a : List Int) : eqD (.lst (a.map .int)) (.lst []) = .ok (decide (a = [])) := eqD_il a []
@[simp] theorem eqD_l0 : eqD (.lst []) (.lst []) = .ok true := by
  simp [eqD, D.pl, D.pls, D.pys, PyData.depth, PyData.depthAll, PyData.eqv, PyData.eqvAll]
@[simp] theorem cmp_eq (a b : D) : cmpD .eq a b = eqD a b := by cases a <;> cases b <;> rfl
@[simp] theorem cmp_ne (a b : D) : cmpD .ne a b = (eqD a b).bind fun k => .ok (!k) := by cases a <;> cases b <;> rfl
@[simp] theorem cmp_in (a b : D) : cmpD .isin a b = inD false a b := by cases a <;> cases b <;> rfl
@[simp] theorem cmp_notin (a b : D) : cmpD .notin a b = inD true a b := by cases a <;> cases b <;> rfl
@[simp] theorem cmp_lt (a b : D) : cmpD .lt a b = ltD a b := by cases a <;> cases b <;> rfl
@[simp] theorem lt_int (a b : Int) : ltD (.int a) (.int b) = .ok (decide (a < b)) := rfl
@[simp] theorem cmp_le (a b : Int) : cmpD .le (.int a) (.int b) = .ok (decide (a ≤ b)) := rfl
@[simp] theorem cmp_gt (a b : Int) : cmpD .gt (.int a) (.int b) = .ok (decide (b < a)) := rfl
@[simp] theorem cmp_ge (a b : Int) : cmpD .ge (.int a) (.int b) = .ok (decide (b ≤ a)) := rfl
@[simp] theorem in_il (neg : Bool) (x : Int) (ns : List Int) : inD neg (.int x) (.lst (ns.map .int)) = .ok (neg ^^ decide (x ∈ ns)) := by
  simp only [inD, D.pl, pls_int, dI, pys_int, PyData.depth]
  rw [if_pos ⟨trivial, trivial, by decide⟩]
  congr 2
  induction ns with
  | nil => rfl
  | cons n ns ih =>
    rw [List.map_cons, List.any_cons, ih]
    simp only [PyData.eqv]
    by_cases h : x = n
    · subst h; simp
    · have : ¬ n = x := fun e => h e.symm
      simp [h, this]
@[simp] theorem bin_addI (i j : Int) : binD .add (.int i) (.int j) = .ok (.va (.int (i + j))) := rfl
@[simp] theorem bin_subI (i j : Int) : binD .sub (.int i) (.int j) = .ok (.va (.int (i - j))) := rfl
@[simp] theorem bin_addL (xs ys : List D) (h : xs.length + ys.length ≤ sizeLine) : binD .add (.lst xs) (.lst ys) = .ok (.fr (.lst (xs ++ ys))) := if_pos h
@[simp] theorem bin_addT (xs ys : List D) (h : xs.length + ys.length ≤ sizeLine) : binD .add (.tup xs) (.tup ys) = .ok (.va (.tup (xs ++ ys))) := if_pos h
theorem bin_mulR (i j : Int) (h : -(2 ^ 64) < j ∧ j < 2 ^ 64) : binD .mul (.int i) (.int j) = .ok (.va (.int (i * j))) := if_pos (.inr h)
theorem bin_mulL (i j : Int) (h : -(2 ^ 64) < i ∧ i < 2 ^ 64) : binD .mul (.int i) (.int j) = .ok (.va (.int (i * j))) := if_pos (.inl h)
@[simp] theorem bin_fdiv (i j : Int) (h0 : 0 < j) (h1 : j < 1073741824) : binD .fdiv (.int i) (.int j) = .ok (.va (.int (i / j))) := if_pos ⟨h0, h1⟩
@[simp] theorem bin_mod (i j : Int) (h0 : 0 < j) : binD .mod (.int i) (.int j) = .ok (.va (.int (i % j))) := if_pos h0
@[simp] theorem bi_lenL (xs : List D) : biD .len [.lst xs] = .ok (.va (.int xs.length)) := rfl
@[simp] theorem bi_lenT (xs : List D) : biD .len [.tup xs] = .ok (.va (.int xs.length)) := rfl
@[simp] theorem bi_abs (i : Int) : biD .abs [.int i] = .ok (.va (.int (if i < 0 then -i else i))) := rfl
@[simp] theorem bi_listL (xs : List D) : biD .list [.lst xs] = .ok (.fr (.lst xs)) := rfl
@[simp] theorem bi_listT (xs : List D) : biD .list [.tup xs] = .ok (.fr (.lst xs)) := rfl
@[simp] theorem bi_tupleL (xs : List D) : biD .tuple [.lst xs] = .ok (.va (.tup xs)) := rfl
@[simp] theorem bi_tupleT (xs : List D) : biD .tuple [.tup xs] = .ok (.va (.tup xs)) := rfl
@[simp] theorem bi_rev (xs : List D) : biD .listRev [.lst xs] = .ok (.fr (.lst xs.reverse)) := rfl
@[simp] theorem bi_rng (n : Int) (h0 : -(2 ^ 62) ≤ n) (h1 : n ≤ 16777216) : biD .listRange [.int n] = .ok (.fr (.lst (rangeD 0 n))) := if_pos ⟨h0, h1⟩
@[simp] theorem bm_append (xs : List D) (d : D) (h : xs.length < sizeLine) : bmD .append xs [d] = .ok (.non, xs ++ [d]) := if_pos h
@[simp] theorem bm_extendL (xs ys : List D) (h : xs.length + ys.length ≤ sizeLine) : bmD .extend xs [.lst ys] = .ok (.non, xs ++ ys) := if_pos h
@[simp] theorem bm_extendT (xs ys : List D) (h : xs.length + ys.length ≤ sizeLine) : bmD .extend xs [.tup ys] = .ok (.non, xs ++ ys) := if_pos h
@[simp] theorem bm_insert (xs : List D) (d : D) (h : xs.length < sizeLine) : bmD .insert xs [.int 0, d] = .ok (.non, d :: xs) := if_pos ⟨rfl, h⟩
@[simp] theorem bm_pop2 (a b c : D) (l : List D) : bmD .pop1 (a :: b :: c :: l) [.int 2] = .ok (c, a :: b :: l) := by
  show (if (0 : Int) ≤ 2 ∧ (2 : Int) < ((a :: b :: c :: l).length : Int) ∧ (2 : Int) < 2 ^ 63 then _ else _) = _
  rw [if_pos ⟨by decide, by simp only [List.length_cons]; omega, by decide⟩]
  rfl
@[simp] theorem scs_int : ∀ ns : List Int, scs (ns.map .int) = some (ns.map .int)
  | [] => rfl
  | n :: ns => by simp [scs_int ns]
/-- a loop by an invariant -/
theorem forLoop_inv {body : D → Sls → Rs (Fl × Sls)} : ∀ (ds : List D) {I : Nat → Sls → Prop} {sl : Sls}, I 0 sl → (∀ i d sl, ds[i]? = some d → I i sl → ∃ sl', body d sl = .ok (.nx, sl') ∧ I (i + 1) sl') → ∃ sl', forLoop body ds sl = .ok (.nx, sl') ∧ I ds.length sl'
  | [], I, sl, h0, _ => ⟨sl, rfl, h0⟩
  | d :: ds, I, sl, h0, hs => by
    obtain ⟨sl1, e1, h1⟩ := hs 0 d sl rfl h0
    obtain ⟨sl2, e2, h2⟩ := forLoop_inv ds (I := fun i => I (i + 1)) h1 fun i d' sl e h => hs (i + 1) d' sl (by simpa using e) h
    refine ⟨sl2, ?_, h2⟩
    unfold forLoop
    rw [e1]
    exact e2
theorem whlLoop_inv {test : Sls → Rs (Bool × Sls)} {body : Sls → Rs (Fl × Sls)} {I : Sls → Prop} {μ : Sls → Nat} {Q : Sls → Prop}
    (hs : ∀ sl, I sl → (∃ sl', test sl = .ok (false, sl') ∧ Q sl') ∨ ∃ sl' sl'', test sl = .ok (true, sl') ∧ body sl' = .ok (.nx, sl'') ∧ I sl'' ∧ μ sl'' < μ sl) :
    ∀ (n : Nat) (sl : Sls), I sl → μ sl < n → ∃ sl', whlLoop test body n sl = .ok (.nx, sl') ∧ Q sl'
  | 0, _, _, h => absurd h (Nat.not_lt_zero _)
  | n + 1, sl, hi, h => by
    unfold whlLoop
    rcases hs sl hi with ⟨sl', e, q⟩ | ⟨sl', sl'', e1, e2, i', l⟩
    · rw [e]
      exact ⟨sl', rfl, q⟩
    · obtain ⟨sl3, e3, q3⟩ := whlLoop_inv hs n sl'' i' (by omega)
      rw [e1]
      refine ⟨sl3, ?_, q3⟩
      rw [Rs.bind_ok, if_pos rfl, e2]
      exact e3
/-- one turn of a comprehension, from the wiped state -/
def lcW (T : Tab) (cf : CF) (own : List Nat) (tg : Tgt) (cond : POpt) (elt : PE) : D → Sls → Rs (Option D × Sls) := fun d sl => (giveT tg d sl).bind fun sl => (evC T cf cond sl).bind fun c => if c.1 = true then (evE T cf elt c.2).bind fun r => (Rs.of (settle r.2 r.1)).bind fun y => if calmS y.2 own = true then .ok (some y.1, y.2) else .stuck
        else if calmS c.2 own = true then .ok (none, c.2) else .stuck
def optL {α : Type} : Option α → List α
  | none => []
  | some a => [a]
def lcFold {α β : Type} (step : α → β → Option D × α) : List β → α → List D × α
  | [], s => ([], s)
  | x :: xs, s => (optL (step s x).1 ++ (lcFold step xs (step s x).2).1, (lcFold step xs (step s x).2).2)
theorem lcLoop_st {T : Tab} {cf : CF} {own : List Nat} {tg : Tgt} {cond : POpt} {elt : PE} {α β : Type} (f : α → Sls) (g : β → D) (step : α → β → Option D × α) :
    ∀ (xs : List β) (s : α) (sl : Sls), wipeS sl own = wipeS (f s) own → calmS sl own = true → (∀ s x, x ∈ xs → ∃ sl'', lcW T cf own tg cond elt (g x) (wipeS (f s) own) = .ok ((step s x).1, sl'') ∧ wipeS sl'' own = wipeS (f (step s x).2) own ∧ calmS sl'' own = true) →
    ∃ sl', lcLoop (lcBody T cf own tg cond elt) (xs.map g) sl = .ok ((lcFold step xs s).1, sl') ∧ wipeS sl' own = wipeS (f (lcFold step xs s).2) own ∧ calmS sl' own = true := by
  intro xs
  induction xs with
  | nil => intro s sl h hc _; exact ⟨sl, rfl, h, hc⟩
  | cons x xs ih =>
    intro s sl h hc hs
    obtain ⟨sl2, e2, w2, c2⟩ := hs s x List.mem_cons_self
    obtain ⟨sl3, e3, w3, c3⟩ := ih (step s x).2 sl2 w2 c2 fun s x hx => hs s x (List.mem_cons_of_mem _ hx)
    refine ⟨sl3, ?_, w3, c3⟩
    rw [List.map_cons]
    unfold lcLoop
    have eb : lcBody T cf own tg cond elt (g x) sl = .ok ((step s x).1, sl2) := by
      have : lcBody T cf own tg cond elt (g x) sl = lcW T cf own tg cond elt (g x) (wipeS sl own) := rfl
      rw [this, h, e2]
    rw [eb, Rs.bind_ok, e3, Rs.bind_ok]
    show _ = Rs.ok (optL (step s x).1 ++ (lcFold step xs (step s x).2).1, sl3)
    cases (step s x).1 <;> rfl
/-- a comprehension that changes nothing: the values kept, from the left -/
theorem evE_lc_pure {T : Tab} {cf : CF} {own : List Nat} {tg : Tgt} {it : PI} {cond : POpt} {elt : PE} {β : Type} (g : β → D) (k : β → Option D) (xs : List β) {sl sl1 : Sls} (hi : evI T cf it sl = .ok (xs.map g, sl1)) (hc : calmS sl1 own = true) (hl : xs.length < sizeLine)
    (hs : ∀ x, x ∈ xs → ∃ sl'', lcW T cf own tg cond elt (g x) (wipeS sl1 own) = .ok (k x, sl'') ∧ wipeS sl'' own = wipeS sl1 own ∧ calmS sl'' own = true) :
    evE T cf (.lc own tg it cond elt) sl = .ok (.fr (.lst (xs.filterMap k)), sl1) := by
  rw [evE_lc, hi, Rs.bind_ok]
  obtain ⟨sl', e, w, c⟩ := lcLoop_st (T := T) (cf := cf) (own := own) (tg := tg) (cond := cond) (elt := elt) (fun _ : Unit => sl1) g (fun _ x => (k x, ())) xs () sl1 rfl hc fun _ x hx => hs x hx
  rw [if_pos ⟨hc, by simpa using hl⟩, e, Rs.bind_ok, if_pos c]
  have e1 : ∀ (xs : List β), (lcFold (fun (_ : Unit) x => (k x, ())) xs ()).1 = xs.filterMap k := by
    intro xs
    induction xs with
    | nil => rfl
    | cons x xs ih =>
      rw [List.filterMap_cons]
      show optL (k x) ++ (lcFold (fun (_ : Unit) x => (k x, ())) xs ()).1 = _
      rw [ih]
      cases k x <;> simp [optL]
  have e2 : backS sl1 sl' own = sl1 := by
    have hl : sl1.length = sl'.length := by
      have := congrArg List.length w
      rw [wipeS_len, wipeS_len] at this
      exact this.symm
    apply List.ext_getElem?
    intro j
    rw [backS_get sl1 sl' hl]
    by_cases m : j ∈ own
    · rw [if_pos m]
    · rw [if_neg m]
      have := congrArg (fun l : Sls => l[j]?) w
      simp only [wipeS_get, if_neg m] at this
      exact this
  rw [e1, e2]
/-- a comprehension over a state -/
theorem evE_lc_st {T : Tab} {cf : CF} {own : List Nat} {tg : Tgt} {it : PI} {cond : POpt} {elt : PE} {α β : Type} (f : α → Sls) (g : β → D) (step : α → β → Option D × α) (s0 : α) (xs : List β) {sl : Sls} (hi : evI T cf it sl = .ok (xs.map g, f s0)) (hc : calmS (f s0) own = true) (hl : xs.length < sizeLine)
    (hs : ∀ s x, x ∈ xs → ∃ sl'', lcW T cf own tg cond elt (g x) (wipeS (f s) own) = .ok ((step s x).1, sl'') ∧ wipeS sl'' own = wipeS (f (step s x).2) own ∧ calmS sl'' own = true)
    (hf : ∀ s j, j ∈ own → (f s)[j]? = (f s0)[j]?) (hln : ∀ s, (f s).length = (f s0).length) :
    evE T cf (.lc own tg it cond elt) sl = .ok (.fr (.lst (lcFold step xs s0).1), f (lcFold step xs s0).2) := by
  rw [evE_lc, hi, Rs.bind_ok]
  obtain ⟨sl', e, w, c⟩ := lcLoop_st (T := T) (cf := cf) (own := own) (tg := tg) (cond := cond) (elt := elt) f g step xs s0 (f s0) rfl hc hs
  rw [if_pos ⟨hc, by simpa using hl⟩, e, Rs.bind_ok, if_pos c]
  have e2 : backS (f s0) sl' own = f (lcFold step xs s0).2 := by
    have hl : (f s0).length = sl'.length := by
      have := congrArg List.length w
      rw [wipeS_len, wipeS_len, hln] at this
      exact this.symm
    apply List.ext_getElem?
    intro j
    rw [backS_get _ sl' hl]
    by_cases m : j ∈ own
    · rw [if_pos m]; exact (hf _ j m).symm
    · rw [if_neg m]
      have := congrArg (fun l : Sls => l[j]?) w
      simp only [wipeS_get, if_neg m] at this
      exact this
  rw [e2]
end Pf

/-! Pm2: rows and numbers (digits from 0, the rows of each length ahead counted); order -/
namespace Pf
open PySem L2
/-- a row's number, from a number ahead of it -/
def numF (m : Int) : Int → List Int → Int
  | a, [] => a
  | a, d :: ds => numF m (a * m + d + 1) ds
abbrev num (m : Int) (r : List Int) : Int := numF m 0 r
/-- digits below m -/
def Vd (m : Int) (r : List Int) : Prop := ∀ d ∈ r, 0 ≤ d ∧ d < m
theorem Vd.nil {m : Int} : Vd m [] := fun _ h => absurd h List.not_mem_nil
theorem Vd.cons {m d : Int} {r : List Int} (h : 0 ≤ d ∧ d < m) (k : Vd m r) : Vd m (d :: r) := fun x hx => by
  rcases List.mem_cons.mp hx with e | e
  · subst e; exact h
  · exact k x e
theorem Vd.app {m : Int} {r s : List Int} (h : Vd m r) (k : Vd m s) : Vd m (r ++ s) := fun x hx => (List.mem_append.mp hx).elim (h x) (k x)
theorem Vd.one {m d : Int} (h : 0 ≤ d ∧ d < m) : Vd m [d] := Vd.cons h Vd.nil
theorem numF_app (m : Int) : ∀ (r s : List Int) (a : Int), numF m a (r ++ s) = numF m (numF m a r) s
  | [], _, _ => rfl
  | d :: r, s, a => numF_app m r s _
theorem num_snoc (m : Int) (r : List Int) (d : Int) : num m (r ++ [d]) = num m r * m + d + 1 := numF_app m r [d] 0
/-- how many rows are shorter than L -/
def ahead (m : Int) : Nat → Int
  | 0 => 0
  | n + 1 => ahead m n * m + 1
theorem ahead_nonneg {m : Int} (h : 1 ≤ m) : ∀ n, 0 ≤ ahead m n
  | 0 => Int.le_refl 0
  | n + 1 => by
    have := Int.mul_nonneg (ahead_nonneg h n) (show 0 ≤ m by omega)
    show 0 ≤ ahead m n * m + 1
    omega
theorem ahead_step {m : Int} (h : 1 ≤ m) (n : Nat) : ahead m n < ahead m (n + 1) := by
  have h0 := ahead_nonneg h n
  have : ahead m n * 1 ≤ ahead m n * m := Int.mul_le_mul_of_nonneg_left h h0
  show ahead m n < ahead m n * m + 1
  omega
theorem ahead_mono {m : Int} (h : 1 ≤ m) {a b : Nat} (k : a ≤ b) : ahead m a ≤ ahead m b := by
  induction k with
  | refl => exact Int.le_refl _
  | step _ ih => exact Int.le_trans ih (Int.le_of_lt (ahead_step h _))
theorem rev_ind {α : Type} {P : List α → Prop} (h0 : P []) (hs : ∀ r d, P r → P (r ++ [d])) (r : List α) : P r := by
  have : ∀ s : List α, P s.reverse := fun s => by
    induction s with
    | nil => exact h0
    | cons x s ih => rw [List.reverse_cons]; exact hs _ _ ih
  have := this r.reverse
  rwa [List.reverse_reverse] at this
theorem num_between {m : Int} (h : 1 ≤ m) (r : List Int) : Vd m r → ahead m r.length ≤ num m r ∧ num m r < ahead m (r.length + 1) := by
  induction r using rev_ind with
  | h0 => intro _; exact ⟨Int.le_refl 0, by show (0 : Int) < 0 * m + 1; omega⟩
  | hs r d ih =>
    intro v
    obtain ⟨i1, i2⟩ := ih fun x hx => v x (List.mem_append_left _ hx)
    obtain ⟨d1, d2⟩ := v d (List.mem_append_right _ List.mem_cons_self)
    have e : num m (r ++ [d]) = num m r * m + d + 1 := num_snoc m r d
    have i2 : num m r ≤ ahead m r.length * m := by
      have : num m r < ahead m r.length * m + 1 := i2
      omega
    have m1 := Int.mul_le_mul_of_nonneg_right i1 (show 0 ≤ m by omega)
    have m2 := Int.mul_le_mul_of_nonneg_right i2 (show 0 ≤ m by omega)
    rw [e, List.length_append]
    show ahead m r.length * m + 1 ≤ _ ∧ _ < (ahead m r.length * m + 1) * m + 1
    have e3 : (ahead m r.length * m + 1) * m = ahead m r.length * m * m + m := by rw [Int.add_mul, Int.one_mul]
    omega
theorem num_nonneg {m : Int} (h : 1 ≤ m) {r : List Int} (v : Vd m r) : 0 ≤ num m r := Int.le_trans (ahead_nonneg h _) (num_between h r v).1
/-- a longer row has a greater number -/
theorem num_len {m : Int} (h : 1 ≤ m) {r s : List Int} (v : Vd m r) (w : Vd m s) (l : r.length < s.length) : num m r < num m s :=
  Int.lt_of_lt_of_le (num_between h r v).2 (Int.le_trans (ahead_mono h l) (num_between h s w).1)
theorem numF_lt {m : Int} : ∀ (r s : List Int) (a b : Int), r.length = s.length → Vd m r → Vd m s → a < b → numF m a r < numF m b s
  | [], [], a, b, _, _, _, h => h
  | [], _ :: _, _, _, l, _, _, _ => by simp at l
  | _ :: _, [], _, _, l, _, _, _ => by simp at l
  | d :: r, e :: s, a, b, l, v, w, h => by
    refine numF_lt r s _ _ (by simpa using l) (fun x hx => v x (List.mem_cons_of_mem _ hx)) (fun x hx => w x (List.mem_cons_of_mem _ hx)) ?_
    obtain ⟨d1, d2⟩ := v d List.mem_cons_self
    obtain ⟨e1, e2⟩ := w e List.mem_cons_self
    have : (a + 1) * m ≤ b * m := Int.mul_le_mul_of_nonneg_right h (by omega)
    rw [Int.add_mul, Int.one_mul] at this
    omega
theorem lex_numF {m : Int} : ∀ (r s : List Int) (a : Int), r.length = s.length → Vd m r → Vd m s → HT.lexLt r s = decide (numF m a r < numF m a s)
  | [], [], a, _, _, _ => by simp [HT.lexLt, numF]
  | [], _ :: _, _, l, _, _ => by simp at l
  | _ :: _, [], _, l, _, _ => by simp at l
  | d :: r, e :: s, a, l, v, w => by
    have l' : r.length = s.length := by simpa using l
    have v' : Vd m r := fun x hx => v x (List.mem_cons_of_mem _ hx)
    have w' : Vd m s := fun x hx => w x (List.mem_cons_of_mem _ hx)
    rw [HT.lexLt_cons]
    by_cases q : d = e
    · subst q
      rw [if_pos rfl]
      exact lex_numF r s _ l' v' w'
    · rw [if_neg q]
      show decide (d < e) = decide (numF m (a * m + d + 1) r < numF m (a * m + e + 1) s)
      by_cases k : d < e
      · have := numF_lt r s (a * m + d + 1) (a * m + e + 1) l' v' w' (by omega)
        rw [decide_eq_true k, decide_eq_true this]
      · have := numF_lt s r (a * m + e + 1) (a * m + d + 1) l'.symm w' v' (by omega)
        rw [decide_eq_false k, decide_eq_false (by omega)]
/-- shorter ones first, those of one length as a dictionary has them -/
def shortLt (r s : List Int) : Bool := decide (r.length < s.length) || (decide (r.length = s.length) && HT.lexLt r s)
theorem short_num {m : Int} (h : 1 ≤ m) {r s : List Int} (v : Vd m r) (w : Vd m s) : shortLt r s = decide (num m r < num m s) := by
  unfold shortLt
  rcases Nat.lt_trichotomy r.length s.length with l | l | l
  · rw [decide_eq_true l, decide_eq_true (num_len h v w l)]; rfl
  · rw [decide_eq_false (by omega), decide_eq_true l, lex_numF r s 0 l v w]; rfl
  · have := num_len h w v l
    rw [decide_eq_false (by omega), decide_eq_false (by omega : ¬ r.length = s.length), decide_eq_false (by omega)]; rfl
/-- every number has its row -/
theorem row_of {m : Int} (h : 1 ≤ m) : ∀ (k : Nat) (n : Int), 0 ≤ n → n.toNat ≤ k → ∃ r, Vd m r ∧ num m r = n
  | 0, n, h0, hk => ⟨[], Vd.nil, by show (0 : Int) = n; omega⟩
  | k + 1, n, h0, hk => by
    by_cases z : n = 0
    · exact ⟨[], Vd.nil, z.symm⟩
    · have d0 : 0 ≤ (n - 1) / m := Int.ediv_nonneg (by omega) (by omega)
      have d1 : (n - 1) / m ≤ n - 1 := Int.ediv_le_self _ (by omega)
      obtain ⟨r, v, e⟩ := row_of h k ((n - 1) / m) d0 (by omega)
      have m0 : 0 ≤ (n - 1) % m := Int.emod_nonneg _ (by omega)
      have m1 : (n - 1) % m < m := Int.emod_lt_of_pos _ (by omega)
      refine ⟨r ++ [(n - 1) % m], v.app (Vd.one ⟨m0, m1⟩), ?_⟩
      rw [num_snoc, e]
      have := Int.mul_ediv_add_emod (n - 1) m
      have c : (n - 1) / m * m = m * ((n - 1) / m) := Int.mul_comm _ _
      omega
theorem row_ex {m : Int} (h : 1 ≤ m) {n : Int} (h0 : 0 ≤ n) : ∃ r, Vd m r ∧ num m r = n := row_of h _ n h0 (Nat.le_refl _)
/-- the last digit, and what is ahead of it -/
theorem num_last {m : Int} (h : 1 ≤ m) {r : List Int} {d : Int} (hd : 0 ≤ d ∧ d < m) : (num m (r ++ [d]) - 1) % m = d ∧ (num m (r ++ [d]) - 1) / m = num m r := by
  have e : num m (r ++ [d]) - 1 = d + num m r * m := by rw [num_snoc]; omega
  rw [e, Int.add_mul_emod_self_right, Int.add_mul_ediv_right _ _ (by omega), Int.emod_eq_of_lt hd.1 hd.2, Int.ediv_eq_zero_of_lt hd.1 hd.2]
  exact ⟨rfl, Int.zero_add _⟩
theorem ahead_base {m k : Int} (h : 1 ≤ m) (l : m ≤ k) : ∀ n, ahead m n ≤ ahead k n
  | 0 => Int.le_refl _
  | n + 1 => by
    have i := ahead_base h l n
    have h0 := ahead_nonneg h n
    have a1 : ahead m n * m ≤ ahead m n * k := Int.mul_le_mul_of_nonneg_left l h0
    have a2 : ahead m n * k ≤ ahead k n * k := Int.mul_le_mul_of_nonneg_right i (by omega)
    show ahead m n * m + 1 ≤ ahead k n * k + 1
    omega
/-- with more digits rows are no longer -/
theorem len_base {m k : Int} (h : 1 ≤ m) (l : m ≤ k) {r s : List Int} (v : Vd m r) (w : Vd k s) (e : num m r = num k s) : s.length ≤ r.length := by
  by_cases q : s.length ≤ r.length
  · exact q
  · have a := (num_between h r v).2
    have b := (num_between (by omega) s w).1
    have c := ahead_base h l (r.length + 1)
    have d := ahead_mono (m := k) (by omega) (show r.length + 1 ≤ s.length by omega)
    omega
theorem num_inj {m : Int} (h : 1 ≤ m) {r s : List Int} (v : Vd m r) (w : Vd m s) (e : num m r = num m s) : r = s := by
  have l : r.length = s.length := by
    rcases Nat.lt_trichotomy r.length s.length with l | l | l
    · have := num_len h v w l; omega
    · exact l
    · have := num_len h w v l; omega
  have key : ∀ (r s : List Int) (a : Int), r.length = s.length → Vd m r → Vd m s → numF m a r = numF m a s → r = s := by
    intro r
    induction r with
    | nil => intro s a l _ _ _; exact (List.eq_nil_of_length_eq_zero l.symm).symm
    | cons d r ih =>
      intro s a l v w e
      cases s with
      | nil => simp at l
      | cons d' s =>
        have l' : r.length = s.length := by simpa using l
        have v' : Vd m r := fun x hx => v x (List.mem_cons_of_mem _ hx)
        have w' : Vd m s := fun x hx => w x (List.mem_cons_of_mem _ hx)
        rcases Int.lt_trichotomy d d' with q | q | q
        · have := numF_lt r s (a * m + d + 1) (a * m + d' + 1) l' v' w' (by omega)
          have e : numF m (a * m + d + 1) r = numF m (a * m + d' + 1) s := e
          omega
        · subst q
          rw [ih s _ l' v' w' e]
        · have := numF_lt s r (a * m + d' + 1) (a * m + d + 1) l'.symm w' v' (by omega)
          have e : numF m (a * m + d + 1) r = numF m (a * m + d' + 1) s := e
          omega
  exact key r s 0 l v w e
/-! ### the order of tuples (a length, a list of ints) -/
theorem alike_ints : ∀ a b : List Int, PySem.W.alikeAll (a.map PyData.int) (b.map PyData.int) = true
  | [], _ => by simp [PySem.W.alikeAll]
  | _ :: _, [] => by simp [PySem.W.alikeAll]
  | x :: a, y :: b => by simp [PySem.W.alikeAll, PySem.W.alike, alike_ints a b]
theorem lt_list : ∀ a b : List Int, PyProof.Rows.lexLt PyProof.Rows.itemOrd (PySem.W.keyToksAll (a.map PyData.int)) (PySem.W.keyToksAll (b.map PyData.int)) = HT.lexLt a b
  | [], [] => by simp only [List.map_nil, PySem.W.keyToksAll]; rfl
  | [], y :: b => by
    rw [List.map_nil, List.map_cons, PySem.W.keyToksAll, PySem.W.toks_all_cons, PySem.W.lex_atom (by simp), PySem.W.lex_one]; rfl
  | x :: a, [] => by
    rw [List.map_nil, List.map_cons, PySem.W.keyToksAll, PySem.W.toks_all_cons, PySem.W.lex_atom (by simp), PySem.W.lex_one]; rfl
  | x :: a, y :: b => by
    rw [List.map_cons, List.map_cons, HT.lexLt_cons]
    have al : PySem.W.alike (.int x) (.int y) = true := by simp [PySem.W.alike]
    by_cases q : x = y
    · subst q
      rw [if_pos rfl, PySem.W.dataLt_all_yes al (by simp [PyData.eqv]), lt_list a b]
    · rw [if_neg q, PySem.W.dataLt_all_no al (by simp [PyData.eqv, q]), PySem.W.dataLt_int]
theorem ltD_len (i j : Int) (a b : List Int) : ltD (.tup [.int i, .lst (a.map .int)]) (.tup [.int j, .lst (b.map .int)]) = .ok (decide (i < j) || (decide (i = j) && HT.lexLt a b)) := by
  have e : ∀ (k : Int) (c : List Int), D.pys [.int k, .lst (c.map .int)] = [.int k, .list (c.map .int)] := fun k c => by simp [D.pys]
  have p : ∀ (k : Int) (c : List Int), D.pls [.int k, .lst (c.map .int)] = true := fun k c => by simp [D.pls, D.pl]
  have al : PySem.W.alike (.int i) (.int j) = true := by simp [PySem.W.alike]
  have al2 : PySem.W.alike (.list (a.map PyData.int)) (.list (b.map PyData.int)) = true := by simp [PySem.W.alike, alike_ints]
  simp only [ltD, e, p]
  rw [if_pos ⟨trivial, trivial, by simp [PySem.W.alike, PySem.W.alikeAll, alike_ints], by simp [PyData.depth, PyData.depthAll]⟩, PySem.W.dataLt_tuple]
  congr 1
  by_cases q : i = j
  · subst q
    rw [PySem.W.dataLt_all_yes al (by simp [PyData.eqv])]
    by_cases k : a = b
    · subst k
      rw [PySem.W.dataLt_all_yes al2 (by simp [PyData.eqv])]
      have : HT.lexLt a a = false := by
        induction a with
        | nil => rfl
        | cons x a ih => rw [HT.lexLt_cons, if_pos rfl]; exact ih (by simp [PySem.W.alike, alike_ints])
      rw [this]
      simp [PySem.W.keyToksAll]
      rfl
    · rw [PySem.W.dataLt_all_no al2 (by simp [PyData.eqv, k]), PySem.W.dataLt_list, lt_list]
      simp
  · rw [PySem.W.dataLt_all_no al (by simp [PyData.eqv, q]), PySem.W.dataLt_int]
    simp [q]
end Pf

/-! Pd: the program and the common part of the laws, as data (printed by gen.py) -/
namespace Pd
open PySem L2 Pf
/-- row_number -/
def w_0_0 : PS := .for (.one 3) (.of (.var 0)) (.cons (.asg 2 (.bin .add (.bin .add (.bin .mul (.var 2) (.var 1)) (.var 3)) (.cI 1))) .nil)
def b_0 : PSs := (.cons (.asg 2 (.cI 0)) (.cons (w_0_0) (.cons (.ret (.var 2)) .nil)))
def d_0 : PDef := ⟨2, [false, false], 4, true, b_0⟩
/-- row_at -/
def w_1_0 : PS := .whl (.cmp .gt (.var 0) (.cI 0)) (.cons (.aug 0 .sub (.cI 1)) (.cons (.ex (.bm .append (.var 2) (.cons (.bin .mod (.var 0) (.var 1)) .nil))) (.cons (.asg 0 (.bin .fdiv (.var 0) (.var 1))) .nil)))
def b_1 : PSs := (.cons (.asg 2 (.lst (.nil))) (.cons (w_1_0) (.cons (.ret (.bi .listRev (.cons (.var 2) .nil))) .nil)))
def d_1 : PDef := ⟨2, [false, false], 3, true, b_1⟩
/-- split_rows -/
def d_2 : PDef := splD
/-- grouped -/
def w_3_0 : PS := .whl (.cmp .ge (.bi .len (.cons (.var 1) .nil)) (.var 4)) (.cons (.ex (.bm .extend (.var 5) (.cons (.bin .add (.lst (.cons (.ix (.var 3) (.var 4)) .nil)) (.sl (.var 1) .none (.some (.var 4)))) .nil))) (.cons (.asg 1 (.sl (.var 1) (.some (.var 4)) .none)) .nil))
def b_3 : PSs := (.cons (.asg 3 (.meth (.var 0) 0 12 23 .nil)) (.cons (.asg 4 (.bin .sub (.fld (.var 0) 0 3) (.cI 1))) (.cons (.asg 5 (.lst (.nil))) (.cons (w_3_0) (.cons (.ite (.or (.cons (.cmp .ne (.var 1) (.lst (.nil))) (.cons (.cmp .eq (.var 5) (.lst (.nil))) (.cons (.not (.var 2)) .nil)))) (.cons (.ex (.bm .extend (.var 5) (.cons (.bin .add (.lst (.cons (.ix (.var 3) (.bi .len (.cons (.var 1) .nil))) .nil)) (.var 1)) .nil))) .nil) (.nil)) (.cons (.ret (.var 5)) .nil))))))
def d_3 : PDef := ⟨3, [false, false, false], 6, true, b_3⟩
/-- counted -/
def w_4_0 : PS := .for (.many [4, 5]) (.enum (.var 2)) (.cons (.ex (.bm .extend (.var 3) (.cons (.call 3 (.cons (.var 0) (.cons (.var 5) (.cons (.cmp .eq (.var 4) (.bin .sub (.bi .len (.cons (.var 2) .nil)) (.cI 1))) .nil)))) .nil))) .nil)
def b_4 : PSs := (.cons (.asg 2 (.call 2 (.cons (.var 1) (.cons (.fld (.var 0) 0 2) .nil)))) (.cons (.asg 3 (.lst (.nil))) (.cons (w_4_0) (.cons (.ret (.var 3)) .nil))))
def d_4 : PDef := ⟨2, [false, false], 6, true, b_4⟩
/-- coded -/
def c_5_0 : PE := .lc [6] (.one 6) (.of (.call 1 (.cons (.call 0 (.cons (.var 4) (.cons (.fld (.var 0) 0 1) .nil))) (.cons (.bin .sub (.fld (.var 0) 0 1) (.cI 1)) .nil)))) .none (.ix (.var 5) (.var 6))
def w_5_0 : PS := .for (.one 3) (.of (.var 1)) (.cons (.ex (.bm .extend (.var 2) (.cons (.ix (.fld (.var 0) 0 5) (.var 3)) .nil))) .nil)
def b_5 : PSs := (.cons (.ite (.cmp .eq (.fld (.var 0) 0 0) (.cS "codes")) (.cons (.asg 2 (.lst (.nil))) (.cons (w_5_0) (.cons (.ret (.var 2)) .nil))) (.nil)) (.cons (.asg 4 (.meth (.var 0) 0 13 24 (.cons (.var 1) .nil))) (.cons (.ite (.cmp .eq (.fld (.var 0) 0 0) (.cS "counts")) (.cons (.ret (.call 4 (.cons (.var 0) (.cons (.var 4) .nil)))) .nil) (.nil)) (.cons (.asg 5 (.meth (.var 0) 0 12 23 .nil)) (.cons (.ret (c_5_0)) .nil)))))
def d_5 : PDef := ⟨2, [false, false], 7, true, b_5⟩
/-- first_state -/
def b_6 : PSs := (.cons (.ite (.cmp .eq (.fld (.var 0) 0 0) (.cS "counts")) (.cons (.ret (.tup (.cons (.cI 0) (.cons (.cS "none") (.cons (.cB false) .nil))))) .nil) (.nil)) (.cons (.ret (.tup (.nil))) .nil))
def d_6 : PDef := ⟨1, [false], 1, true, b_6⟩
/-- code_step -/
def c_7_0 : PE := .lc [4] (.one 4) (.of (.fld (.var 0) 0 5)) (.some (.cmp .eq (.sl (.var 4) .none (.some (.bi .len (.cons (.var 3) .nil)))) (.var 3))) (.var 4)
def b_7 : PSs := (.cons (.asg 3 (.bin .add (.var 1) (.tup (.cons (.var 2) .nil)))) (.cons (.ite (.cmp .isin (.var 3) (.fld (.var 0) 0 5)) (.cons (.ret (.tup (.cons (.tup (.nil)) (.cons (.lst (.cons (.bm .index (.fld (.var 0) 0 5) (.cons (.var 3) .nil)) .nil)) .nil)))) .nil) (.nil)) (.cons (.ite (.cmp .ne (c_7_0) (.lst (.nil))) (.cons (.ret (.tup (.cons (.var 3) (.cons (.lst (.nil)) .nil)))) .nil) (.nil)) (.cons (.ret (.cN)) .nil))))
def d_7 : PDef := ⟨3, [false, false, false], 5, true, b_7⟩
/-- count_step -/
def b_8 : PSs := (.cons (.asgT [3, 4, 5] (.var 1)) (.cons (.ite (.cmp .gt (.var 3) (.cI 0)) (.cons (.ret (.tup (.cons (.tup (.cons (.bin .sub (.var 3) (.cI 1)) (.cons (.var 4) (.cons (.var 5) .nil)))) (.cons (.meth (.var 0) 0 14 25 (.cons (.lst (.cons (.var 2) .nil)) .nil)) .nil)))) .nil) (.nil)) (.cons (.asg 6 (.bin .add (.bm .index (.meth (.var 0) 0 12 23 .nil) (.cons (.var 2) .nil)) (.cI 1))) (.cons (.ite (.cmp .gt (.var 6) (.fld (.var 0) 0 3)) (.cons (.ret (.cN)) .nil) (.nil)) (.cons (.asg 7 (.ife (.cmp .eq (.var 4) (.cS "part")) (.meth (.var 0) 0 14 25 (.cons (.lst (.cons (.fld (.var 0) 0 2) .nil)) .nil)) (.lst (.nil)))) (.cons (.ite (.cmp .eq (.var 6) (.fld (.var 0) 0 3)) (.cons (.ret (.tup (.cons (.tup (.cons (.bin .sub (.var 6) (.cI 1)) (.cons (.cS "full") (.cons (.cB false) .nil)))) (.cons (.var 7) .nil)))) .nil) (.nil)) (.cons (.ret (.tup (.cons (.tup (.cons (.bin .sub (.var 6) (.cI 1)) (.cons (.cS "part") (.cons (.and (.cons (.cmp .eq (.var 6) (.cI 1)) (.cons (.cmp .eq (.var 4) (.cS "full")) .nil))) .nil)))) (.cons (.var 7) .nil)))) .nil)))))))
def d_8 : PDef := ⟨3, [false, false, false], 8, true, b_8⟩
/-- step -/
def b_9 : PSs := (.cons (.ite (.cmp .eq (.fld (.var 0) 0 0) (.cS "codes")) (.cons (.ret (.call 7 (.cons (.var 0) (.cons (.var 1) (.cons (.var 2) .nil))))) .nil) (.nil)) (.cons (.ite (.cmp .eq (.fld (.var 0) 0 0) (.cS "counts")) (.cons (.ret (.call 8 (.cons (.var 0) (.cons (.var 1) (.cons (.var 2) .nil))))) .nil) (.nil)) (.cons (.ret (.tup (.cons (.bin .add (.var 1) (.tup (.cons (.var 2) .nil))) (.cons (.lst (.nil)) .nil)))) .nil)))
def d_9 : PDef := ⟨3, [false, false, false], 3, true, b_9⟩
/-- last -/
def c_10_0 : PE := .lc [7] (.one 7) (.of (.var 1)) .none (.bm .index (.var 5) (.cons (.var 7) .nil))
def b_10 : PSs := (.cons (.ite (.cmp .eq (.fld (.var 0) 0 0) (.cS "codes")) (.cons (.ret (.ife (.cmp .eq (.var 1) (.tup (.nil))) (.lst (.nil)) (.cN))) .nil) (.nil)) (.cons (.ite (.cmp .eq (.fld (.var 0) 0 0) (.cS "counts")) (.cons (.asgT [2, 3, 4] (.var 1)) (.cons (.ret (.ife (.and (.cons (.cmp .eq (.var 2) (.cI 0)) (.cons (.cmp .ne (.var 3) (.cS "none")) (.cons (.not (.var 4)) .nil)))) (.lst (.nil)) (.cN))) .nil)) (.nil)) (.cons (.asg 5 (.meth (.var 0) 0 12 23 .nil)) (.cons (.asg 6 (.call 0 (.cons (c_10_0) (.cons (.bin .sub (.fld (.var 0) 0 1) (.cI 1)) .nil)))) (.cons (.ret (.meth (.var 0) 0 14 25 (.cons (.call 1 (.cons (.var 6) (.cons (.fld (.var 0) 0 1) .nil))) .nil))) .nil)))))
def d_10 : PDef := ⟨2, [false, false], 8, true, b_10⟩
/-- core -/
def w_11_0 : PS := .whl (.cmp .eq (.ix (.var 0) (.cI 0)) (.cS "turned")) (.cons (.asg 0 (.ix (.var 0) (.cI 2))) .nil)
def b_11 : PSs := (.cons (w_11_0) (.cons (.ret (.var 0)) .nil))
def d_11 : PDef := ⟨1, [false], 1, true, b_11⟩
/-- turns -/
def w_12_0 : PS := .whl (.cmp .eq (.ix (.var 0) (.cI 0)) (.cS "turned")) (.cons (.ex (.bm .append (.var 1) (.cons (.ix (.var 0) (.cI 1)) .nil))) (.cons (.asg 0 (.ix (.var 0) (.cI 2))) .nil))
def b_12 : PSs := (.cons (.asg 1 (.lst (.nil))) (.cons (w_12_0) (.cons (.ret (.var 1)) .nil)))
def d_12 : PDef := ⟨1, [false], 2, true, b_12⟩
/-- is_plain -/
def b_13 : PSs := (.cons (.ret (.and (.cons (.chain .le .lt (.cI 0) (.var 0) (.var 1)) (.cons (.cmp .ne (.var 0) (.var 2)) .nil)))) .nil)
def d_13 : PDef := ⟨3, [false, false, false], 3, true, b_13⟩
/-- are_plain -/
def c_14_0 : PE := .lc [3] (.one 3) (.of (.var 0)) (.some (.not (.call 13 (.cons (.var 3) (.cons (.var 1) (.cons (.var 2) .nil)))))) (.var 3)
def b_14 : PSs := (.cons (.ret (.cmp .eq (c_14_0) (.lst (.nil)))) .nil)
def d_14 : PDef := ⟨3, [false, false, false], 4, true, b_14⟩
/-- begins -/
def b_15 : PSs := (.cons (.ret (.cmp .eq (.sl (.var 1) .none (.some (.bi .len (.cons (.var 0) .nil)))) (.var 0))) .nil)
def d_15 : PDef := ⟨2, [false, false], 2, true, b_15⟩
/-- are_codes -/
def w_16_0 : PS := .for (.one 5) (.of (.sl (.var 0) .none (.some (.var 3)))) (.cons (.ite (.or (.cons (.call 15 (.cons (.var 4) (.cons (.var 5) .nil))) (.cons (.call 15 (.cons (.var 5) (.cons (.var 4) .nil))) .nil))) (.cons (.ret (.cB false)) .nil) (.nil)) .nil)
def w_16_1 : PS := .for (.many [3, 4]) (.enum (.var 0)) (.cons (.ite (.or (.cons (.not (.chain .le .le (.cI 1) (.bi .len (.cons (.var 4) .nil)) (.gI "MOST_CODE" 4))) (.cons (.not (.call 14 (.cons (.var 4) (.cons (.var 1) (.cons (.var 2) .nil))))) .nil))) (.cons (.ret (.cB false)) .nil) (.nil)) (.cons (w_16_0) .nil))
def b_16 : PSs := (.cons (.ite (.cmp .ne (.bi .len (.cons (.var 0) .nil)) (.var 1)) (.cons (.ret (.cB false)) .nil) (.nil)) (.cons (w_16_1) (.cons (.ret (.cB true)) .nil)))
def d_16 : PDef := ⟨3, [false, false, false], 6, true, b_16⟩
/-- are_pairs -/
def c_17_0 : PE := .lc [5] (.one 5) (.of (.var 4)) (.some (.not (.chain .le .lt (.cI 0) (.var 5) (.var 1)))) (.var 5)
def c_17_1 : PE := .lc [5, 6] (.many [5, 6]) (.of (.var 0)) .none (.var 6)
def c_17_2 : PE := .lc [5, 6] (.many [5, 6]) (.of (.var 0)) .none (.var 5)
def b_17 : PSs := (.cons (.asg 4 (c_17_2)) (.cons (.asg 7 (c_17_1)) (.cons (.ite (.or (.cons (.cmp .ne (.var 4) (.bi .sortedSet (.cons (.var 4) .nil))) (.cons (.cmp .notin (.var 2) (.var 4)) (.cons (.cmp .notin (.var 3) (.var 4)) .nil)))) (.cons (.ret (.cB false)) .nil) (.nil)) (.cons (.ite (.cmp .ne (c_17_0) (.lst (.nil))) (.cons (.ret (.cB false)) .nil) (.nil)) (.cons (.ret (.and (.cons (.cmp .eq (.bi .lenSet (.cons (.var 7) .nil)) (.bi .len (.cons (.var 7) .nil))) (.cons (.call 14 (.cons (.var 7) (.cons (.var 1) (.cons (.var 2) .nil)))) .nil)))) .nil)))))
def d_17 : PDef := ⟨4, [false, false, false, false], 8, true, b_17⟩
/-- fault_of -/
def b_18 : PSs := (.cons (.asgT [1, 2, 3] (.sl (.var 0) .none (.some (.cI 3)))) (.cons (.ite (.not (.chain .le .le (.gI "LEAST_TOP" 3) (.var 2) (.gI "MOST_TOP" 16))) (.cons (.ret (.cS "top")) .nil) (.nil)) (.cons (.ite (.not (.chain .le .lt (.cI 0) (.var 3) (.var 2))) (.cons (.ret (.cS "end")) .nil) (.nil)) (.cons (.ite (.and (.cons (.cmp .eq (.var 1) (.cS "codes")) (.cons (.not (.call 16 (.cons (.ix (.var 0) (.cI 3)) (.cons (.var 2) (.cons (.var 3) .nil))))) .nil))) (.cons (.ret (.cS "codes")) .nil) (.nil)) (.cons (.ite (.and (.cons (.cmp .eq (.var 1) (.cS "escapes")) (.cons (.not (.call 13 (.cons (.ix (.var 0) (.cI 3)) (.cons (.var 2) (.cons (.var 3) .nil))))) .nil))) (.cons (.ret (.cS "mark")) .nil) (.nil)) (.cons (.ite (.and (.cons (.cmp .eq (.var 1) (.cS "escapes")) (.cons (.not (.call 17 (.cons (.ix (.var 0) (.cI 4)) (.cons (.var 2) (.cons (.var 3) (.cons (.ix (.var 0) (.cI 3)) .nil)))))) .nil))) (.cons (.ret (.cS "pairs")) .nil) (.nil)) (.cons (.ite (.and (.cons (.cmp .eq (.var 1) (.cS "counts")) (.cons (.not (.chain .le .lt (.cI 2) (.ix (.var 0) (.cI 3)) (.var 2))) .nil))) (.cons (.ret (.cS "limit")) .nil) (.nil)) (.cons (.ret (.cN)) .nil))))))))
def d_18 : PDef := ⟨1, [false], 4, true, b_18⟩
/-- need_way -/
def w_19_0 : PS := .for (.one 2) (.of (.call 12 (.cons (.var 0) .nil))) (.cons (.ite (.cmp .ne (.bi .sorted (.cons (.var 2) .nil)) (.bi .listRange (.cons (.ix (.call 11 (.cons (.var 0) .nil)) (.cI 1)) .nil))) (.cons (.never) .nil) (.nil)) .nil)
def b_19 : PSs := (.cons (.ite (.cmp .gt (.bi .len (.cons (.call 12 (.cons (.var 0) .nil)) .nil)) (.gI "MOST_TURNS" 3)) (.cons (.never) .nil) (.nil)) (.cons (.asg 1 (.call 18 (.cons (.call 11 (.cons (.var 0) .nil)) .nil))) (.cons (.ite (.notN (.var 1)) (.cons (.never) .nil) (.nil)) (.cons (w_19_0) .nil))))
def d_19 : PDef := ⟨1, [false], 3, true, b_19⟩
/-- escaped_codes -/
def w_20_0 : PS := .for (.many [7, 8]) (.of (.var 5)) (.cons (.setix (.var 6) (.var 7) (.tup (.cons (.var 4) (.cons (.var 8) .nil)))) .nil)
def c_20_0 : PE := .lc [7] (.one 7) (.rng1 (.var 2)) .none (.tup (.cons (.var 7) .nil))
def b_20 : PSs := (.cons (.asgT [1, 2, 3, 4, 5] (.var 0)) (.cons (.asg 6 (c_20_0)) (.cons (w_20_0) (.cons (.ret (.var 6)) .nil))))
def d_20 : PDef := ⟨1, [false], 9, true, b_20⟩
/-- Plan.__init__ -/
def c_21_0 : PE := .lc [4] (.one 4) (.of (.fld (.var 0) 0 4)) .none (.ix (.var 5) (.var 4))
def c_21_1 : PE := .lc [4] (.one 4) (.of (.fld (.var 0) 0 4)) .none (.ix (.var 3) (.var 4))
def w_21_0 : PS := .for (.one 3) (.of (.call 12 (.cons (.var 1) .nil))) (.cons (.setfld 0 0 4 (c_21_1)) .nil)
def b_21 : PSs := (.cons (.ex (.call 19 (.cons (.var 1) .nil))) (.cons (.asg 2 (.call 11 (.cons (.var 1) .nil))) (.cons (.setfld 0 0 0 (.ix (.var 2) (.cI 0))) (.cons (.setfld 0 0 1 (.ix (.var 2) (.cI 1))) (.cons (.setfld 0 0 2 (.ix (.var 2) (.cI 2))) (.cons (.setfld 0 0 3 (.ife (.cmp .eq (.fld (.var 0) 0 0) (.cS "counts")) (.ix (.var 2) (.cI 3)) (.cI 0))) (.cons (.setfld 0 0 4 (.bi .listRange (.cons (.fld (.var 0) 0 1) .nil))) (.cons (w_21_0) (.cons (.setfld 0 0 5 (.lst (.nil))) (.cons (.ite (.cmp .isin (.fld (.var 0) 0 0) (.tup (.cons (.cS "codes") (.cons (.cS "escapes") .nil)))) (.cons (.asg 5 (.ife (.cmp .eq (.fld (.var 0) 0 0) (.cS "codes")) (.ix (.var 2) (.cI 3)) (.call 20 (.cons (.var 2) .nil)))) (.cons (.setfld 0 0 0 (.cS "codes")) (.cons (.setfld 0 0 5 (c_21_0)) (.cons (.setfld 0 0 4 (.bi .listRange (.cons (.fld (.var 0) 0 1) .nil))) .nil)))) (.nil)) .nil))))))))))
def d_21 : PDef := ⟨2, [true, false], 6, true, b_21⟩
/-- Plan.told -/
def b_22 : PSs := (.cons (.ret (.tup (.cons (.fld (.var 0) 0 0) (.cons (.fld (.var 0) 0 1) (.cons (.fld (.var 0) 0 2) (.cons (.fld (.var 0) 0 3) (.cons (.bi .tuple (.cons (.fld (.var 0) 0 4) .nil)) (.cons (.bi .tuple (.cons (.fld (.var 0) 0 5) .nil)) .nil)))))))) .nil)
def d_22 : PDef := ⟨1, [false], 1, true, b_22⟩
/-- Plan.plain -/
def c_23_0 : PE := .lc [1] (.one 1) (.rng1 (.fld (.var 0) 0 1)) (.some (.cmp .ne (.var 1) (.fld (.var 0) 0 2))) (.var 1)
def b_23 : PSs := (.cons (.ret (c_23_0)) .nil)
def d_23 : PDef := ⟨1, [false], 2, true, b_23⟩
/-- Plan.exchanged -/
def c_24_0 : PE := .lc [2] (.one 2) (.of (.var 1)) .none (.ix (.fld (.var 0) 0 4) (.var 2))
def b_24 : PSs := (.cons (.ret (c_24_0)) .nil)
def d_24 : PDef := ⟨2, [false, false], 3, true, b_24⟩
/-- Plan.back -/
def c_25_0 : PE := .lc [2] (.one 2) (.of (.var 1)) .none (.bm .index (.fld (.var 0) 0 4) (.cons (.var 2) .nil))
def b_25 : PSs := (.cons (.ret (c_25_0)) .nil)
def d_25 : PDef := ⟨2, [false, false], 3, true, b_25⟩
/-- need_signs -/
def w_26_0 : PS := .for (.many [3, 4]) (.enum (.var 1)) (.cons (.ite (.not (.chain .le .lt (.cI 0) (.var 4) (.fld (.var 0) 0 1))) (.cons (.ret (.var 3)) .nil) (.nil)) .nil)
def b_26 : PSs := (.cons (.ite (.cmp .gt (.bi .len (.cons (.var 1) .nil)) (.var 2)) (.cons (.ret (.var 2)) .nil) (.nil)) (.cons (w_26_0) (.cons (.ret (.cN)) .nil)))
def d_26 : PDef := ⟨3, [false, false, false], 5, true, b_26⟩
/-- framed -/
def b_27 : PSs := (.cons (.asg 2 (.make 0 21 (.cons (.var 0) .nil))) (.cons (.asg 3 (.call 26 (.cons (.var 2) (.cons (.var 1) (.cons (.gI "MOST_BODY" 60) .nil))))) (.cons (.ite (.notN (.var 3)) (.cons (.never) .nil) (.nil)) (.cons (.ret (.bin .add (.call 5 (.cons (.var 2) (.cons (.var 1) .nil))) (.lst (.cons (.fld (.var 2) 0 2) .nil)))) .nil))))
def d_27 : PDef := ⟨2, [false, false], 4, true, b_27⟩
/-- found_body -/
def w_28_0 : PS := .for (.one 4) (.of (.var 1)) (.cons (.asg 5 (.call 9 (.cons (.var 0) (.cons (.var 2) (.cons (.var 4) .nil))))) (.cons (.ite (.isN (.var 5)) (.cons (.ret (.cN)) .nil) (.nil)) (.cons (.asg 2 (.ix (.var 5) (.cI 0))) (.cons (.ex (.bm .extend (.var 3) (.cons (.ix (.var 5) (.cI 1)) .nil))) .nil))))
def b_28 : PSs := (.cons (.asg 2 (.call 6 (.cons (.var 0) .nil))) (.cons (.asg 3 (.lst (.nil))) (.cons (w_28_0) (.cons (.asg 6 (.call 10 (.cons (.var 0) (.cons (.var 2) .nil)))) (.cons (.ite (.or (.cons (.isN (.var 6)) (.cons (.cmp .gt (.bin .add (.bi .len (.cons (.var 3) .nil)) (.bi .len (.cons (.var 6) .nil))) (.gI "MOST_BODY" 60)) .nil))) (.cons (.ret (.cN)) .nil) (.nil)) (.cons (.ret (.bin .add (.var 3) (.var 6))) .nil))))))
def d_28 : PDef := ⟨2, [false, false], 7, true, b_28⟩
/-- body_of -/
def b_29 : PSs := (.cons (.asg 2 (.make 0 21 (.cons (.var 0) .nil))) (.cons (.asg 3 (.call 26 (.cons (.var 2) (.cons (.var 1) (.cons (.gI "MOST_SIGNS" 400) .nil))))) (.cons (.ite (.notN (.var 3)) (.cons (.never) .nil) (.nil)) (.cons (.ite (.or (.cons (.cmp .notin (.fld (.var 2) 0 2) (.var 1)) (.cons (.cmp .lt (.bm .index (.var 1) (.cons (.fld (.var 2) 0 2) .nil)) (.bin .sub (.bi .len (.cons (.var 1) .nil)) (.cI 1))) .nil))) (.cons (.ret (.cN)) .nil) (.nil)) (.cons (.ret (.call 28 (.cons (.var 2) (.cons (.sl (.var 1) .none (.some (.neg (.cI 1)))) .nil)))) .nil)))))
def d_29 : PDef := ⟨2, [false, false], 4, true, b_29⟩
/-- Reader.__init__ -/
def b_34 : PSs := (.cons (.setfld 0 1 6 (.make 0 21 (.cons (.var 1) .nil))) (.cons (.setfldE 0 1 7) .nil))
def d_34 : PDef := ⟨2, [true, false], 2, true, b_34⟩
/-- Reader.put -/
def w_35_0 : PS := .for (.one 4) (.of (.var 1)) (.cons (.ite (.cmp .eq (.var 4) (.fld (.fld (.var 0) 1 6) 0 2)) (.cons (.ex (.bm .append (.var 3) (.cons (.frz 0 (.call 28 (.cons (.fld (.var 0) 1 6) (.cons (.fld (.var 0) 1 7) .nil)))) .nil))) (.cons (.setfldE 0 1 7) .nil)) (.cons (.fapp 0 1 7 4) .nil)) .nil)
def b_35 : PSs := (.cons (.asg 2 (.call 26 (.cons (.fld (.var 0) 1 6) (.cons (.var 1) (.cons (.gI "MOST_SIGNS" 400) .nil))))) (.cons (.ite (.notN (.var 2)) (.cons (.never) .nil) (.nil)) (.cons (.asg 3 (.lst (.nil))) (.cons (w_35_0) (.cons (.ret (.var 3)) .nil)))))
def d_35 : PDef := ⟨2, [true, false], 5, true, b_35⟩
/-- Reader.rest -/
def b_36 : PSs := (.cons (.ret (.bi .list (.cons (.fld (.var 0) 1 7) .nil))) .nil)
def d_36 : PDef := ⟨1, [false], 1, true, b_36⟩
/-- read -/
def b_37 : PSs := (.cons (.asg 2 (.make 1 34 (.cons (.var 0) .nil))) (.cons (.ret (.tup (.cons (.meth (.var 2) 1 15 35 (.cons (.var 1) .nil)) (.cons (.meth (.var 2) 1 16 36 .nil) .nil)))) .nil))
def d_37 : PDef := ⟨2, [false, false], 3, true, b_37⟩
/-- Writer.__init__ -/
def b_38 : PSs := (.cons (.setfld 0 2 6 (.make 0 21 (.cons (.var 1) .nil))) (.cons (.setfldE 0 2 8) (.cons (.setfldE 0 2 9) (.cons (.setfld 0 2 10 (.cS "none")) .nil))))
def d_38 : PDef := ⟨2, [true, false], 2, true, b_38⟩
/-- Writer.put -/
def b_39 : PSs := (.cons (.asg 2 (.frz 0 (.call 26 (.cons (.fld (.var 0) 2 6) (.cons (.bin .add (.fld (.var 0) 2 8) (.lst (.cons (.var 1) .nil))) (.cons (.gI "MOST_BODY" 60) .nil)))))) (.cons (.ite (.notN (.var 2)) (.cons (.never) .nil) (.nil)) (.cons (.fapp 0 2 8 1) (.cons (.ite (.cmp .eq (.fld (.fld (.var 0) 2 6) 0 0) (.cS "codes")) (.cons (.ret (.bi .list (.cons (.ix (.fld (.fld (.var 0) 2 6) 0 5) (.var 1)) .nil))) .nil) (.nil)) (.cons (.ite (.cmp .eq (.fld (.fld (.var 0) 2 6) 0 0) (.cS "counts")) (.cons (.ret (.meth (.var 0) 2 17 40 (.cons (.ix (.fld (.fld (.var 0) 2 6) 0 4) (.var 1)) .nil))) .nil) (.nil)) (.cons (.ret (.lst (.nil))) .nil))))))
def d_39 : PDef := ⟨2, [true, false], 3, true, b_39⟩
/-- Writer.by_count -/
def b_40 : PSs := (.cons (.ite (.cmp .eq (.var 1) (.fld (.fld (.var 0) 2 6) 0 2)) (.cons (.ret (.meth (.var 0) 2 18 41 (.cons (.cS "part") .nil))) .nil) (.nil)) (.cons (.fapp 0 2 9 1) (.cons (.ite (.frz 0 (.cmp .eq (.bi .len (.cons (.fld (.var 0) 2 9) .nil)) (.bin .sub (.fld (.fld (.var 0) 2 6) 0 3) (.cI 1)))) (.cons (.ret (.meth (.var 0) 2 18 41 (.cons (.cS "full") .nil))) .nil) (.nil)) (.cons (.ret (.lst (.nil))) .nil))))
def d_40 : PDef := ⟨2, [true, false], 2, true, b_40⟩
/-- Writer.over -/
def b_41 : PSs := (.cons (.asg 2 (.frz 0 (.bin .add (.lst (.cons (.ix (.meth (.fld (.var 0) 2 6) 0 12 23 .nil) (.bi .len (.cons (.fld (.var 0) 2 9) .nil))) .nil)) (.fld (.var 0) 2 9)))) (.cons (.setfldE 0 2 9) (.cons (.setfld 0 2 10 (.var 1)) (.cons (.ret (.var 2)) .nil))))
def d_41 : PDef := ⟨2, [true, false], 3, true, b_41⟩
/-- Writer.close -/
def b_42 : PSs := (.cons (.asg 1 (.lst (.nil))) (.cons (.ite (.cmp .eq (.fld (.fld (.var 0) 2 6) 0 0) (.cS "ranks")) (.cons (.asg 1 (.frz 0 (.call 5 (.cons (.fld (.var 0) 2 6) (.cons (.fld (.var 0) 2 8) .nil))))) .nil) (.nil)) (.cons (.ite (.and (.cons (.cmp .eq (.fld (.fld (.var 0) 2 6) 0 0) (.cS "counts")) (.cons (.or (.cons (.frz 0 (.cmp .ne (.fld (.var 0) 2 9) (.lst (.nil)))) (.cons (.cmp .ne (.fld (.var 0) 2 10) (.cS "full")) .nil))) .nil))) (.cons (.asg 1 (.meth (.var 0) 2 18 41 (.cons (.cS "none") .nil))) .nil) (.nil)) (.cons (.setfldE 0 2 8) (.cons (.setfld 0 2 10 (.cS "none")) (.cons (.ret (.bin .add (.var 1) (.lst (.cons (.fld (.fld (.var 0) 2 6) 0 2) .nil)))) .nil))))))
def d_42 : PDef := ⟨1, [true], 2, true, b_42⟩
/-- _law_dice -/
def c_50_0 : PE := .lc [3] (.one 3) (.of (.var 0)) (.some (.cmp .ge (.var 3) (.bin .pow (.cI 10) (.cI 18)))) (.var 3)
def w_50_0 : PS := .for (.one 3) (.of (.var 0)) (.cons (.asg 2 (.bin .mod (.bin .add (.bin .mul (.var 2) (.cI 31)) (.bi .abs (.cons (.var 3) .nil))) (.cI 2147483647))) .nil)
def b_50 : PSs := (.cons (.asg 2 (.var 1)) (.cons (w_50_0) (.cons (.ret (.bin .add (.lst (.cons (.var 2) (.cons (.cI 0) .nil))) (c_50_0))) .nil)))
def d_50 : PDef := ⟨2, [false, false], 4, true, b_50⟩
/-- _law_off -/
def b_51 : PSs := (.cons (.ite (.and (.cons (.cmp .eq (.ix (.var 0) (.cI 1)) (.cI 0)) (.cons (.cmp .gt (.bi .len (.cons (.var 0) .nil)) (.cI 2)) .nil))) (.cons (.setix (.var 0) (.cI 1) (.bm .pop1 (.var 0) (.cons (.cI 2) .nil))) .nil) (.nil)) (.cons (.ite (.cmp .gt (.ix (.var 0) (.cI 1)) (.cI 0)) (.cons (.asg 2 (.bin .mod (.ix (.var 0) (.cI 1)) (.var 1))) (.cons (.setix (.var 0) (.cI 1) (.bin .fdiv (.ix (.var 0) (.cI 1)) (.var 1))) (.cons (.ret (.var 2)) .nil))) (.nil)) (.cons (.setix (.var 0) (.cI 0) (.bin .mod (.bin .add (.bin .mul (.ix (.var 0) (.cI 0)) (.cI 48271)) (.cI 11)) (.cI 2147483647))) (.cons (.ret (.bin .mod (.bin .fdiv (.ix (.var 0) (.cI 0)) (.cI 64)) (.var 1))) .nil))))
def d_51 : PDef := ⟨2, [true, false], 3, true, b_51⟩
/-- _law_alike -/
def c_52_0 : PE := .lc [2] (.one 2) (.rng1 (.bi .len (.cons (.var 1) .nil))) .none (.call 52 (.cons (.ix (.var 0) (.var 2)) (.cons (.ix (.var 1) (.var 2)) .nil)))
def b_52 : PSs := (.cons (.ite (.isN (.var 1)) (.cons (.ret (.isN (.var 0))) .nil) (.nil)) (.cons (.ite (.bi .isB (.cons (.var 1) .nil)) (.cons (.ret (.and (.cons (.bi .isB (.cons (.var 0) .nil)) (.cons (.cmp .eq (.var 0) (.var 1)) .nil)))) .nil) (.nil)) (.cons (.ite (.bi .isI (.cons (.var 1) .nil)) (.cons (.ret (.and (.cons (.bi .isI (.cons (.var 0) .nil)) (.cons (.not (.bi .isB (.cons (.var 0) .nil))) (.cons (.cmp .eq (.var 0) (.var 1)) .nil))))) .nil) (.nil)) (.cons (.ite (.bi .isS (.cons (.var 1) .nil)) (.cons (.ret (.and (.cons (.bi .isS (.cons (.var 0) .nil)) (.cons (.cmp .eq (.var 0) (.var 1)) .nil)))) .nil) (.nil)) (.cons (.ite (.or (.cons (.cmp .ne (.bi .isT (.cons (.var 1) .nil)) (.bi .isT (.cons (.var 0) .nil))) (.cons (.cmp .ne (.bi .isL (.cons (.var 1) .nil)) (.bi .isL (.cons (.var 0) .nil))) .nil))) (.cons (.ret (.cB false)) .nil) (.nil)) (.cons (.ite (.cmp .ne (.bi .len (.cons (.var 0) .nil)) (.bi .len (.cons (.var 1) .nil))) (.cons (.ret (.cB false)) .nil) (.nil)) (.cons (.ret (.bi .all (.cons (c_52_0) .nil))) .nil)))))))
def d_52 : PDef := ⟨2, [false, false], 3, true, b_52⟩
/-- _law_mixed -/
def w_53_0 : PS := .whl (.cmp .ne (.var 2) (.lst (.nil))) (.cons (.ex (.bm .append (.var 3) (.cons (.bm .pop1 (.var 2) (.cons (.call 51 (.cons (.var 0) (.cons (.bi .len (.cons (.var 2) .nil)) .nil))) .nil)) .nil))) .nil)
def b_53 : PSs := (.cons (.asg 2 (.bi .list (.cons (.var 1) .nil))) (.cons (.asg 3 (.lst (.nil))) (.cons (w_53_0) (.cons (.ret (.var 3)) .nil))))
def d_53 : PDef := ⟨2, [true, false], 4, true, b_53⟩
/-- _law_plain -/
def c_54_0 : PE := .lc [2] (.one 2) (.rng1 (.var 0)) (.some (.cmp .ne (.var 2) (.var 1))) (.var 2)
def b_54 : PSs := (.cons (.ret (c_54_0)) .nil)
def d_54 : PDef := ⟨2, [false, false], 3, true, b_54⟩
/-- _law_codes -/
def c_55_0 : PE := .lc [5] (.one 5) (.of (.var 3)) .none (.bin .add (.var 8) (.tup (.cons (.var 5) .nil)))
def c_55_1 : PE := .lcO 4 [8] (.one 8) (.some (.cmp .lt (.bi .len (.cons (.var 8) .nil)) (.cI 4))) (.var 8)
def w_55_0 : PS := .for (.one 6) (.rng1 (.bin .add (.cI 1) (.call 51 (.cons (.var 0) (.cons (.cI 3) .nil))))) (.cons (.asg 7 (c_55_1)) (.cons (.asg 8 (.ix (.var 7) (.call 51 (.cons (.var 0) (.cons (.bi .len (.cons (.var 7) .nil)) .nil))))) (.cons (.ex (.bm .remove (.var 4) (.cons (.var 8) .nil))) (.cons (.asg 4 (.bin .add (.var 4) (c_55_0))) .nil))))
def c_55_2 : PE := .lc [5] (.one 5) (.of (.var 3)) .none (.tup (.cons (.var 5) .nil))
def b_55 : PSs := (.cons (.asg 3 (.call 54 (.cons (.var 1) (.cons (.var 2) .nil)))) (.cons (.asg 4 (c_55_2)) (.cons (w_55_0) (.cons (.ret (.tup (.cons (.cS "codes") (.cons (.var 1) (.cons (.var 2) (.cons (.bi .tuple (.cons (.sl (.call 53 (.cons (.var 0) (.cons (.var 4) .nil))) .none (.some (.var 1))) .nil)) .nil)))))) .nil))))
def d_55 : PDef := ⟨3, [true, false, false], 9, true, b_55⟩
/-- _law_escapes -/
def c_56_0 : PE := .lc [9] (.one 9) (.rng1 (.bi .len (.cons (.var 7) .nil))) .none (.tup (.cons (.ix (.var 7) (.var 9)) (.cons (.ix (.var 8) (.var 9)) .nil)))
def c_56_1 : PE := .lc [6] (.one 6) (.of (.var 3)) (.some (.and (.cons (.cmp .ne (.var 6) (.var 4)) (.cons (.cmp .eq (.call 51 (.cons (.var 0) (.cons (.cI 3) .nil))) (.cI 0)) .nil)))) (.var 6)
def b_56 : PSs := (.cons (.asg 3 (.call 54 (.cons (.var 1) (.cons (.var 2) .nil)))) (.cons (.asg 4 (.ix (.var 3) (.call 51 (.cons (.var 0) (.cons (.bi .len (.cons (.var 3) .nil)) .nil))))) (.cons (.asg 5 (c_56_1)) (.cons (.asg 7 (.bi .sorted (.cons (.bin .add (.lst (.cons (.var 2) (.cons (.var 4) .nil))) (.sl (.var 5) .none (.some (.bin .sub (.var 1) (.cI 3))))) .nil))) (.cons (.asg 8 (.call 53 (.cons (.var 0) (.cons (.var 3) .nil)))) (.cons (.ret (.tup (.cons (.cS "escapes") (.cons (.var 1) (.cons (.var 2) (.cons (.var 4) (.cons (.bi .tuple (.cons (c_56_0) .nil)) .nil))))))) .nil))))))
def d_56 : PDef := ⟨3, [true, false, false], 10, true, b_56⟩
/-- _law_base -/
def b_57 : PSs := (.cons (.asg 2 (.call 51 (.cons (.var 0) (.cons (.var 1) .nil)))) (.cons (.asg 3 (.call 51 (.cons (.var 0) (.cons (.cI 7) .nil)))) (.cons (.ite (.cmp .lt (.var 3) (.cI 2)) (.cons (.ret (.call 55 (.cons (.var 0) (.cons (.var 1) (.cons (.var 2) .nil))))) .nil) (.nil)) (.cons (.ite (.cmp .eq (.var 3) (.cI 2)) (.cons (.ret (.call 56 (.cons (.var 0) (.cons (.var 1) (.cons (.var 2) .nil))))) .nil) (.nil)) (.cons (.ite (.cmp .eq (.var 3) (.cI 6)) (.cons (.ret (.tup (.cons (.cS "ranks") (.cons (.var 1) (.cons (.var 2) .nil))))) .nil) (.nil)) (.cons (.ret (.tup (.cons (.cS "counts") (.cons (.var 1) (.cons (.var 2) (.cons (.ife (.cmp .gt (.var 1) (.cI 3)) (.ix (.lst (.cons (.cI 2) (.cons (.cI 3) (.cons (.bin .sub (.var 1) (.cI 1)) (.cons (.bin .add (.cI 2) (.call 51 (.cons (.var 0) (.cons (.bin .sub (.var 1) (.cI 2)) .nil)))) .nil))))) (.call 51 (.cons (.var 0) (.cons (.cI 4) .nil)))) (.cI 2)) .nil)))))) .nil))))))
def d_57 : PDef := ⟨2, [true, false], 4, true, b_57⟩
/-- _law_turned -/
def w_58_0 : PS := .for (.one 3) (.rng1 (.ix (.lst (.cons (.cI 0) (.cons (.cI 0) (.cons (.cI 1) (.cons (.var 2) .nil))))) (.call 51 (.cons (.var 0) (.cons (.cI 4) .nil))))) (.cons (.asg 1 (.tup (.cons (.cS "turned") (.cons (.bi .tuple (.cons (.call 53 (.cons (.var 0) (.cons (.bi .listRange (.cons (.call 60 (.cons (.var 1) .nil)) .nil)) .nil))) .nil)) (.cons (.var 1) .nil))))) .nil)
def b_58 : PSs := (.cons (w_58_0) (.cons (.ret (.var 1)) .nil))
def d_58 : PDef := ⟨3, [true, false, false], 4, true, b_58⟩
/-- _law_core -/
def w_59_0 : PS := .whl (.cmp .eq (.ix (.var 0) (.cI 0)) (.cS "turned")) (.cons (.asg 0 (.ix (.var 0) (.cI 2))) .nil)
def b_59 : PSs := (.cons (w_59_0) (.cons (.ret (.var 0)) .nil))
def d_59 : PDef := ⟨1, [false], 1, true, b_59⟩
/-- _law_top -/
def b_60 : PSs := (.cons (.ret (.ix (.call 59 (.cons (.var 0) .nil)) (.cI 1))) .nil)
def d_60 : PDef := ⟨1, [false], 1, true, b_60⟩
/-- _law_end -/
def b_61 : PSs := (.cons (.ret (.ix (.call 59 (.cons (.var 0) .nil)) (.cI 2))) .nil)
def d_61 : PDef := ⟨1, [false], 1, true, b_61⟩
/-- _law_size -/
def b_62 : PSs := (.cons (.ret (.ix (.lst (.cons (.cI 3) (.cons (.cI 3) (.cons (.cI 4) (.cons (.cI 4) (.cons (.cI 5) (.cons (.bin .add (.cI 3) (.bin .mod (.bin .fdiv (.ix (.var 0) (.cI 0)) (.cI 7)) (.cI 14))) (.cons (.cI 8) (.cons (.cI 16) .nil))))))))) (.call 51 (.cons (.var 0) (.cons (.cI 8) .nil))))) .nil)
def d_62 : PDef := ⟨1, [true], 1, true, b_62⟩
/-- _law_way -/
def b_63 : PSs := (.cons (.ret (.call 58 (.cons (.var 0) (.cons (.call 57 (.cons (.var 0) (.cons (.call 62 (.cons (.var 0) .nil)) .nil))) (.cons (.cI 3) .nil))))) .nil)
def d_63 : PDef := ⟨1, [true], 1, true, b_63⟩
/-- _law_body -/
def w_64_0 : PS := .for (.one 8) (.rng1 (.var 4)) (.cons (.ite (.or (.cons (.cmp .eq (.var 5) (.cI 0)) (.cons (.cmp .eq (.call 51 (.cons (.var 0) (.cons (.cI 6) .nil))) (.cI 0)) .nil))) (.cons (.ex (.bm .append (.var 7) (.cons (.call 51 (.cons (.var 0) (.cons (.var 1) .nil))) .nil))) .nil) (.cons (.ex (.bm .append (.var 7) (.cons (.ix (.lst (.cons (.var 6) (.cons (.var 2) (.cons (.var 6) .nil)))) (.bin .sub (.var 5) (.cI 1))) .nil))) .nil)) .nil)
def b_64 : PSs := (.cons (.asg 4 (.call 51 (.cons (.var 0) (.cons (.bin .add (.var 3) (.cI 1)) .nil)))) (.cons (.asg 5 (.call 51 (.cons (.var 0) (.cons (.cI 4) .nil)))) (.cons (.asg 6 (.call 51 (.cons (.var 0) (.cons (.var 1) .nil)))) (.cons (.asg 7 (.lst (.nil))) (.cons (w_64_0) (.cons (.ret (.var 7)) .nil))))))
def d_64 : PDef := ⟨4, [true, false, false, false], 9, true, b_64⟩
/-- _law_number -/
def w_65_0 : PS := .for (.one 5) (.of (.var 0)) (.cons (.asg 2 (.bin .add (.bin .mul (.var 2) (.var 1)) (.var 5))) (.cons (.asg 3 (.bin .add (.var 3) (.var 4))) (.cons (.asg 4 (.bin .mul (.var 4) (.var 1))) .nil)))
def b_65 : PSs := (.cons (.asg 2 (.cI 0)) (.cons (.asg 3 (.cI 0)) (.cons (.asg 4 (.cI 1)) (.cons (w_65_0) (.cons (.ret (.bin .add (.var 2) (.var 3))) .nil)))))
def d_65 : PDef := ⟨2, [false, false], 6, true, b_65⟩
/-- _law_list -/
def w_66_0 : PS := .for (.one 5) (.rng1 (.var 2)) (.cons (.ex (.bm .insert (.var 4) (.cons (.cI 0) (.cons (.bin .mod (.var 0) (.var 1)) .nil)))) (.cons (.asg 0 (.bin .fdiv (.var 0) (.var 1))) .nil))
def w_66_1 : PS := .whl (.cmp .ge (.var 0) (.var 3)) (.cons (.asg 0 (.bin .sub (.var 0) (.var 3))) (.cons (.asg 3 (.bin .mul (.var 3) (.var 1))) (.cons (.asg 2 (.bin .add (.var 2) (.cI 1))) .nil)))
def b_66 : PSs := (.cons (.asg 2 (.cI 0)) (.cons (.asg 3 (.cI 1)) (.cons (w_66_1) (.cons (.asg 4 (.lst (.nil))) (.cons (w_66_0) (.cons (.ret (.var 4)) .nil))))))
def d_66 : PDef := ⟨2, [false, false], 6, true, b_66⟩
/-- _law_rows -/
def c_67_0 : PE := .lc [3] (.one 3) (.rng1 (.bin .sub (.bi .len (.cons (.var 2) .nil)) (.cI 1))) .none (.sl (.var 0) (.some (.bin .add (.ix (.var 2) (.var 3)) (.cI 1))) (.some (.ix (.var 2) (.bin .add (.var 3) (.cI 1)))))
def c_67_1 : PE := .lc [3] (.one 3) (.rng1 (.bi .len (.cons (.var 0) .nil))) (.some (.cmp .eq (.ix (.var 0) (.var 3)) (.var 1))) (.var 3)
def b_67 : PSs := (.cons (.asg 2 (.bin .add (.bin .add (.lst (.cons (.neg (.cI 1)) .nil)) (c_67_1)) (.lst (.cons (.bi .len (.cons (.var 0) .nil)) .nil)))) (.cons (.ret (c_67_0)) .nil))
def d_67 : PDef := ⟨2, [false, false], 4, true, b_67⟩
/-- _law_counted -/
def w_68_0 : PS := .for (.one 9) (.rng1 (.bin .fdiv (.bi .len (.cons (.ix (.var 4) (.var 7)) .nil)) (.var 5))) (.cons (.asg 6 (.bin .add (.bin .add (.var 6) (.lst (.cons (.ix (.var 2) (.var 5)) .nil))) (.sl (.var 8) .none (.some (.var 5))))) (.cons (.asg 8 (.sl (.var 8) (.some (.var 5)) .none)) .nil))
def w_68_1 : PS := .for (.one 7) (.rng1 (.bi .len (.cons (.var 4) .nil))) (.cons (.asg 8 (.ix (.var 4) (.var 7))) (.cons (w_68_0) (.cons (.ite (.or (.cons (.cmp .lt (.var 7) (.bin .sub (.bi .len (.cons (.var 4) .nil)) (.cI 1))) (.cons (.cmp .ne (.var 8) (.lst (.nil))) (.cons (.cmp .eq (.ix (.var 4) (.var 7)) (.lst (.nil))) .nil)))) (.cons (.asg 6 (.bin .add (.bin .add (.var 6) (.lst (.cons (.ix (.var 2) (.bi .len (.cons (.var 8) .nil))) .nil))) (.var 8))) .nil) (.nil)) .nil)))
def b_68 : PSs := (.cons (.asg 4 (.call 67 (.cons (.var 0) (.cons (.var 1) .nil)))) (.cons (.asg 5 (.bin .sub (.var 3) (.cI 1))) (.cons (.asg 6 (.lst (.nil))) (.cons (w_68_1) (.cons (.ret (.var 6)) .nil)))))
def d_68 : PDef := ⟨4, [false, false, false, false], 10, true, b_68⟩
/-- _law_framed -/
def c_69_0 : PE := .lc [9] (.one 9) (.of (.var 7)) .none (.ix (.var 0) (.cI 3))
def c_69_1 : PE := .lc [8, 9] (.many [8, 9]) (.of (.ix (.var 0) (.cI 4))) (.some (.cmp .eq (.var 8) (.var 2))) (.var 9)
def w_69_0 : PS := .for (.one 2) (.of (.var 1)) (.cons (.ite (.cmp .eq (.ix (.var 0) (.cI 0)) (.cS "codes")) (.cons (.asg 6 (.bin .add (.var 6) (.bi .list (.cons (.ix (.ix (.var 0) (.cI 3)) (.var 2)) .nil)))) .nil) (.cons (.asg 7 (c_69_1)) (.cons (.asg 6 (.bin .add (.bin .add (.var 6) (c_69_0)) (.sl (.bin .add (.var 7) (.lst (.cons (.var 2) .nil))) .none (.some (.cI 1))))) .nil))) .nil)
def c_69_2 : PE := .lc [5] (.one 5) (.of (.var 4)) .none (.ix (.var 3) (.var 5))
def c_69_3 : PE := .lc [2] (.one 2) (.of (.var 1)) .none (.ix (.ix (.var 0) (.cI 1)) (.var 2))
def b_69 : PSs := (.cons (.ite (.cmp .eq (.ix (.var 0) (.cI 0)) (.cS "turned")) (.cons (.ret (.call 69 (.cons (.ix (.var 0) (.cI 2)) (.cons (c_69_3) .nil)))) .nil) (.nil)) (.cons (.asg 3 (.call 54 (.cons (.ix (.var 0) (.cI 1)) (.cons (.ix (.var 0) (.cI 2)) .nil)))) (.cons (.ite (.cmp .eq (.ix (.var 0) (.cI 0)) (.cS "counts")) (.cons (.ret (.bin .add (.call 68 (.cons (.var 1) (.cons (.ix (.var 0) (.cI 2)) (.cons (.var 3) (.cons (.ix (.var 0) (.cI 3)) .nil))))) (.lst (.cons (.ix (.var 0) (.cI 2)) .nil)))) .nil) (.nil)) (.cons (.ite (.cmp .eq (.ix (.var 0) (.cI 0)) (.cS "ranks")) (.cons (.asg 4 (.call 66 (.cons (.call 65 (.cons (.var 1) (.cons (.ix (.var 0) (.cI 1)) .nil))) (.cons (.bin .sub (.ix (.var 0) (.cI 1)) (.cI 1)) .nil)))) (.cons (.ret (.bin .add (c_69_2) (.lst (.cons (.ix (.var 0) (.cI 2)) .nil)))) .nil)) (.nil)) (.cons (.asg 6 (.lst (.nil))) (.cons (w_69_0) (.cons (.ret (.bin .add (.var 6) (.lst (.cons (.ix (.var 0) (.cI 2)) .nil)))) .nil)))))))
def d_69 : PDef := ⟨2, [false, false], 10, true, b_69⟩
/-- _law_signs -/
def c_71_0 : PE := .lc [7] (.one 7) (.rng1 (.call 51 (.cons (.var 0) (.cons (.cI 4) .nil)))) .none (.ix (.lst (.cons (.var 4) (.cons (.call 51 (.cons (.var 0) (.cons (.var 3) .nil))) .nil))) (.call 51 (.cons (.var 0) (.cons (.cI 2) .nil))))
def w_71_0 : PS := .for (.one 6) (.rng1 (.call 51 (.cons (.var 0) (.cons (.cI 7) .nil)))) (.cons (.asg 5 (.bin .add (.var 5) (.call 69 (.cons (.var 1) (.cons (.call 64 (.cons (.var 0) (.cons (.var 3) (.cons (.var 4) (.cons (.cI 8) .nil))))) .nil))))) (.cons (.ite (.cmp .eq (.call 51 (.cons (.var 0) (.cons (.cI 3) .nil))) (.cI 0)) (.cons (.setix (.var 5) (.call 51 (.cons (.var 0) (.cons (.bi .len (.cons (.var 5) .nil)) .nil))) (.call 51 (.cons (.var 0) (.cons (.var 3) .nil)))) .nil) (.nil)) (.cons (.ite (.cmp .eq (.call 51 (.cons (.var 0) (.cons (.cI 4) .nil))) (.cI 0)) (.cons (.asg 5 (.bin .add (.var 5) (c_71_0))) .nil) (.nil)) .nil)))
def b_71 : PSs := (.cons (.asg 3 (.call 60 (.cons (.var 1) .nil))) (.cons (.asg 4 (.call 61 (.cons (.var 1) .nil))) (.cons (.asg 5 (.lst (.nil))) (.cons (w_71_0) (.cons (.ret (.sl (.var 5) .none (.some (.var 2)))) .nil)))))
def d_71 : PDef := ⟨3, [true, false, false], 8, true, b_71⟩
end Pd

/-! Q0: plans: plain signs, exchanges, a look at signs -/
namespace Wm
open PySem L2 Pf Pd
structure Hw (T : Tab) (pr : Nat → CF) : Prop where
  h11 : T 11 = some d_11
  h12 : T 12 = some d_12
  h13 : T 13 = some d_13
  h14 : T 14 = some d_14
  h15 : T 15 = some d_15
  h16 : T 16 = some d_16
  h17 : T 17 = some d_17
  h18 : T 18 = some d_18
  h19 : T 19 = some d_19
  h20 : T 20 = some d_20
  h21 : T 21 = some d_21
  h23 : T 23 = some d_23
  h24 : T 24 = some d_24
/-- writing -/
structure Hc (T : Tab) (pr : Nat → CF) : Prop where
  h0 : T 0 = some d_0
  h1 : T 1 = some d_1
  h2 : T 2 = some d_2
  h3 : T 3 = some d_3
  h4 : T 4 = some d_4
  h5 : T 5 = some d_5
  hp : ∀ n as, pr n 2 as = splCF as
/-- reading -/
structure Hr (T : Tab) (pr : Nat → CF) : Prop where
  h0 : T 0 = some d_0
  h1 : T 1 = some d_1
  h6 : T 6 = some d_6
  h7 : T 7 = some d_7
  h8 : T 8 = some d_8
  h9 : T 9 = some d_9
  h10 : T 10 = some d_10
  h25 : T 25 = some d_25
/-- body_of -/
structure Hb (T : Tab) (pr : Nat → CF) : Prop where
  h29 : T 29 = some d_29
/-- the laws' common part -/
structure Hk (T : Tab) (pr : Nat → CF) : Prop where
  h50 : T 50 = some d_50
  h51 : T 51 = some d_51
  h53 : T 53 = some d_53
  h54 : T 54 = some d_54
  h55 : T 55 = some d_55
  h56 : T 56 = some d_56
  h57 : T 57 = some d_57
  h58 : T 58 = some d_58
  h59 : T 59 = some d_59
  h60 : T 60 = some d_60
  h62 : T 62 = some d_62
  h63 : T 63 = some d_63
/-- a slot that a loop may set -/
def Fr (w : Sl) : Prop := w = .un ∨ ∃ d, w = .va d
/-- all ints below t -/
def rg (t : Int) : List Int := (List.range t.toNat).map fun i : Nat => (i : Int)
/-- the i-th sign that is not e -/
def sg (e i : Int) : Int := if i < e then i else i + 1
def plL (t e : Int) : List Int := (rg (t - 1)).map (sg e)
theorem rangeD_rg (t : Int) : rangeD 0 t = (rg t).map .int := by
  unfold rangeD rg
  rw [List.map_map, Int.sub_zero]
  congr 1
  funext i
  simp
theorem rg_succ (k : Nat) : rg ((k + 1 : Nat) : Int) = rg (k : Int) ++ [(k : Int)] := by
  unfold rg
  rw [Int.toNat_natCast, Int.toNat_natCast, List.range_succ, List.map_append]
  rfl
theorem mem_rg {t x : Int} : x ∈ rg t ↔ 0 ≤ x ∧ x < t := by
  unfold rg
  rw [List.mem_map]
  constructor
  · rintro ⟨i, h, rfl⟩
    have := List.mem_range.mp h
    omega
  · rintro ⟨h1, h2⟩
    exact ⟨x.toNat, List.mem_range.mpr (by omega), by omega⟩
theorem filter_rg : ∀ (k : Nat) (e : Int), 0 ≤ e → e ≤ k → (rg ((k + 1 : Nat) : Int)).filter (fun x => decide (x ≠ e)) = (rg (k : Int)).map (sg e)
  | 0, e, h0, h1 => by
    have : e = 0 := by omega
    subst this
    rfl
  | k + 1, e, h0, h1 => by
    rw [rg_succ, List.filter_append]
    by_cases q : e = (k + 1 : Nat)
    · have e1 : (rg ((k + 1 : Nat) : Int)).filter (fun x => decide (x ≠ e)) = rg ((k + 1 : Nat) : Int) := by
        rw [List.filter_eq_self]
        intro x hx
        have := mem_rg.mp hx
        simp; omega
      have e2 : (rg ((k + 1 : Nat) : Int)).map (sg e) = rg ((k + 1 : Nat) : Int) := by
        have : (rg ((k + 1 : Nat) : Int)).map (sg e) = (rg ((k + 1 : Nat) : Int)).map id := List.map_congr_left fun x hx => by
          have := mem_rg.mp hx
          unfold sg
          rw [if_pos (by omega)]; rfl
        rw [this, List.map_id]
      rw [e1, e2, q]
      simp
    · rw [filter_rg k e h0 (by omega), rg_succ k, List.map_append]
      congr 1
      have : ((k + 1 : Nat) : Int) ≠ e := fun z => q z.symm
      have h2 : sg e (k : Int) = ((k + 1 : Nat) : Int) := by
        unfold sg
        rw [if_neg (by omega)]; omega
      rw [List.map_cons, h2, List.filter_cons, if_pos (by simpa using this)]
      rfl
theorem filter_pl {t e : Int} (h0 : 0 ≤ e) (h1 : e < t) : (rg t).filter (fun x => decide (x ≠ e)) = plL t e := by
  have := filter_rg (t - 1).toNat e h0 (by omega)
  have e1 : (((t - 1).toNat + 1 : Nat) : Int) = t := by omega
  have e2 : (((t - 1).toNat : Nat) : Int) = t - 1 := by omega
  rw [e1, e2] at this
  exact this
theorem fm_filter (t e : Int) : (rg t).filterMap (fun x => if x = e then none else some (D.int x)) = ((rg t).filter (fun x => decide (x ≠ e))).map .int := by
  induction rg t with
  | nil => rfl
  | cons x xs ih =>
    rw [List.filterMap_cons, List.filter_cons]
    by_cases q : x = e
    · rw [if_pos q, if_neg (by simp [q])]; exact ih
    · rw [if_neg q, if_pos (by simp [q]), ih]; rfl
theorem rg_len (t : Int) : (rg t).length = t.toNat := by simp [rg]
inductive Kd where
  | codes | counts | ranks
  deriving DecidableEq
def Kd.str : Kd → Str
  | .codes => "codes" | .counts => "counts" | .ranks => "ranks"
/-- a way as it is followed -/
structure Pl where
  k : Kd
  t : Int
  e : Int
  l : Int
  s : List Int
  c : List (List Int)
abbrev tupD (r : List Int) : D := .tup (r.map .int)
def pF (p : Pl) : List (Nat × D) := [(0, .str p.k.str), (1, .int p.t), (2, .int p.e), (3, .int p.l), (4, .lst (p.s.map .int)), (5, .lst (p.c.map tupD))]
abbrev pD (p : Pl) : D := .obj 0 (pF p)
structure Te (p : Pl) : Prop where
  t3 : 3 ≤ p.t
  t16 : p.t ≤ 16
  e0 : 0 ≤ p.e
  e1 : p.e < p.t
variable {T : Tab} {pr : Nat → CF} {W : Nat}
theorem ev_pplain (H : Hw T pr) (n : Nat) {p : Pl} (h : Te p) : evF T pr W (n + 1) 23 [.va (pD p)] = .ok (.fr (.lst ((plL p.t p.e).map .int)), none) := by
  obtain ⟨h0, h2, h, h1⟩ := h
  have e2 : evE T (evF T pr W n) c_23_0 [.va (pD p), .un] = .ok (.fr (.lst ((rg p.t).filterMap fun x => if x = p.e then none else some (.int x))), [.va (pD p), .un]) := by
    refine evE_lc_pure (fun c : Int => D.int c) _ (rg p.t) ?_ ?_ ?_ fun c hc => ⟨[.va (pD p), .va (.int c)], ?_⟩
    · simp [pF, List.lookup, rangeD_rg, show p.t < 2 ^ 62 by omega, show -(2 ^ 62) ≤ p.t by omega]
      omega
    · simp
    · rw [sizeLine_eq, rg_len]; omega
    · by_cases q : c = p.e <;> simp [lcW, q, pF, List.lookup]
  rw [fm_filter, filter_pl h h1] at e2
  rw [evF]
  simp [H.h23, d_23, b_23, List.findIdx?, List.findIdx?.go, e2]
theorem take_succ {α : Type} {r : List α} {i : Nat} {d : α} (h : r[i]? = some d) : r.take (i + 1) = r.take i ++ [d] := by
  rw [List.take_add_one, h]; rfl
theorem rg_get {t : Int} {i : Nat} (h : (i : Int) < t) : (rg t)[i]? = some (i : Int) := by
  unfold rg
  rw [List.getElem?_map, List.getElem?_range (by omega)]
  rfl
theorem atI_rg {t c : Int} (h0 : 0 ≤ c) (h1 : c < t) : atI ((rg t).map D.int) c = some (.int c) := by
  obtain ⟨i, rfl⟩ : ∃ i : Nat, c = i := ⟨c.toNat, by omega⟩
  rw [Pf.atI_nat, List.getElem?_map, rg_get h1]
  rfl
theorem atI_pl {t e c : Int} (h0 : 0 ≤ c) (h1 : c < t - 1) : atI ((plL t e).map D.int) c = some (.int (sg e c)) := by
  obtain ⟨i, rfl⟩ : ∃ i : Nat, c = i := ⟨c.toNat, by omega⟩
  unfold plL
  rw [Pf.atI_nat, List.getElem?_map, List.getElem?_map, rg_get h1]
  rfl
theorem sg_inj {e a b : Int} (h : sg e a = sg e b) : a = b := by
  unfold sg at h
  split at h <;> split at h <;> omega
theorem sg_lt {e a b : Int} (h : a < b) : sg e a < sg e b := by
  unfold sg
  split <;> split <;> omega
theorem rg_nodup (t : Int) : (rg t).Nodup := by
  unfold rg
  rw [List.nodup_iff_pairwise_ne, List.pairwise_map]
  exact List.Pairwise.imp (fun h => by omega) (List.nodup_iff_pairwise_ne.mp List.nodup_range)
theorem pl_nodup (t e : Int) : (plL t e).Nodup := by
  unfold plL
  rw [List.nodup_iff_pairwise_ne, List.pairwise_map]
  exact List.Pairwise.imp (fun h q => h (sg_inj q)) (List.nodup_iff_pairwise_ne.mp (rg_nodup _))
theorem place_at {ns : List Int} (nd : ns.Nodup) {i : Nat} {c : Int} (h : ns[i]? = some c) : PySem.SeqAt.dataPlace (ns.map PyData.int) (.int c) = some i := by
  unfold PySem.SeqAt.dataPlace
  obtain ⟨hi, hc⟩ := List.getElem?_eq_some_iff.mp h
  rw [List.findIdx?_eq_some_iff_getElem]
  refine ⟨by simpa using hi, ?_, fun j hj => ?_⟩
  · simp [PyData.eqv, hc]
  · have hj' : j < ns.length := by omega
    have : ns[j] ≠ c := fun q => by
      have := (List.getElem_inj nd).mp (q.trans hc.symm)
      omega
    simp [PyData.eqv, this]
theorem index_at {ns : List Int} (nd : ns.Nodup) {i : Nat} {c : Int} (h : ns[i]? = some c) : blD .index (.lst (ns.map .int)) [.int c] = .ok (.int i) := by
  show (if _ then _ else _ : Rs D) = _
  rw [if_pos ⟨rfl, pls_int ns, by simp [PyData.depth]⟩, pys_int, dI, place_at nd h]
  rfl
theorem index_rg {t c : Int} (h0 : 0 ≤ c) (h1 : c < t) : blD .index (.lst ((rg t).map .int)) [.int c] = .ok (.int c) := by
  obtain ⟨i, rfl⟩ : ∃ i : Nat, c = i := ⟨c.toNat, by omega⟩
  exact index_at (rg_nodup t) (rg_get h1)
theorem index_pl {t e c : Int} (h0 : 0 ≤ c) (h1 : c < t - 1) : blD .index (.lst ((plL t e).map .int)) [.int (sg e c)] = .ok (.int c) := by
  obtain ⟨i, rfl⟩ : ∃ i : Nat, c = i := ⟨c.toNat, by omega⟩
  refine index_at (pl_nodup t e) ?_
  unfold plL
  rw [List.getElem?_map, rg_get h1]
  rfl
theorem fm_some {α β : Type} (f : α → β) : ∀ xs : List α, xs.filterMap (fun x => some (f x)) = xs.map f
  | [] => rfl
  | x :: xs => by rw [List.filterMap_cons, List.map_cons, fm_some f xs]
/-- what a sign is exchanged for; the sign that is exchanged for one -/
def ex (s : List Int) (x : Int) : Int := s.getD x.toNat 0
def bk (s : List Int) (y : Int) : Int := (s.idxOf y : Nat)
theorem ex_get {s : List Int} {x : Int} (h0 : 0 ≤ x) (h1 : x < s.length) : s[x.toNat]? = some (ex s x) := by
  unfold ex
  rw [List.getD_eq_getElem?_getD, List.getElem?_eq_getElem (by omega)]
  rfl
theorem perm_len {t : Int} {s : List Int} (h : s.Perm (rg t)) (ht : 0 ≤ t) : (s.length : Int) = t := by
  rw [h.length_eq, rg_len]; omega
theorem perm_mem {t x : Int} {s : List Int} (h : s.Perm (rg t)) : x ∈ s ↔ 0 ≤ x ∧ x < t := by rw [h.mem_iff, mem_rg]
theorem perm_nodup {t : Int} {s : List Int} (h : s.Perm (rg t)) : s.Nodup := h.nodup_iff.mpr (rg_nodup t)
theorem ex_range {t x : Int} {s : List Int} (h : s.Perm (rg t)) (h0 : 0 ≤ x) (h1 : x < t) : 0 ≤ ex s x ∧ ex s x < t :=
  (perm_mem h).mp (List.mem_of_getElem? (ex_get h0 (by rw [perm_len h (by omega)]; exact h1)))
theorem bk_range {t y : Int} {s : List Int} (h : s.Perm (rg t)) (h0 : 0 ≤ y) (h1 : y < t) : 0 ≤ bk s y ∧ bk s y < t := by
  have hm : y ∈ s := (perm_mem h).mpr ⟨h0, h1⟩
  have := List.idxOf_lt_length_of_mem hm
  have := perm_len h (by omega)
  unfold bk
  omega
theorem ex_bk {t y : Int} {s : List Int} (h : s.Perm (rg t)) (h0 : 0 ≤ y) (h1 : y < t) : ex s (bk s y) = y := by
  have hm : y ∈ s := (perm_mem h).mpr ⟨h0, h1⟩
  unfold ex bk
  rw [Int.toNat_natCast, List.getD_eq_getElem?_getD, List.getElem?_eq_getElem (List.idxOf_lt_length_of_mem hm)]
  exact List.getElem_idxOf (List.idxOf_lt_length_of_mem hm)
theorem bk_ex {t x : Int} {s : List Int} (h : s.Perm (rg t)) (h0 : 0 ≤ x) (h1 : x < t) : bk s (ex s x) = x := by
  have hl := perm_len h (by omega)
  have e := ex_get (s := s) h0 (by omega)
  obtain ⟨hi, q⟩ := List.getElem?_eq_some_iff.mp e
  have r := ex_range h h0 h1
  have hm : ex s x ∈ s := (perm_mem h).mpr r
  have hj := List.idxOf_lt_length_of_mem hm
  have : s.idxOf (ex s x) = x.toNat := (List.getElem_inj (perm_nodup h)).mp ((List.getElem_idxOf hj).trans q.symm)
  unfold bk
  rw [this]; omega
theorem ev_exch (H : Hw T pr) (n : Nat) {p : Pl} (hs : p.s.Perm (rg p.t)) (ht : 0 ≤ p.t) {b : List Int} (v : Vd p.t b) (hb : b.length ≤ 1000) : evF T pr W (n + 1) 24 [.va (pD p), .va (.lst (b.map .int))] = .ok (.fr (.lst ((b.map (ex p.s)).map .int)), none) := by
  have e2 : evE T (evF T pr W n) c_24_0 [.va (pD p), .va (.lst (b.map .int)), .un] = .ok (.fr (.lst (b.filterMap fun x => some (.int (ex p.s x)))), [.va (pD p), .va (.lst (b.map .int)), .un]) := by
    refine evE_lc_pure (fun c : Int => D.int c) _ b ?_ ?_ ?_ fun c hc => ⟨[.va (pD p), .va (.lst (b.map .int)), .va (.int c)], ?_⟩
    · simp
    · simp
    · rw [sizeLine_eq]; omega
    · obtain ⟨c0, c1⟩ := v c hc
      have g : atI (p.s.map D.int) c = some (.int (ex p.s c)) := by
        obtain ⟨i, rfl⟩ : ∃ i : Nat, c = i := ⟨c.toNat, by omega⟩
        have := ex_get (s := p.s) c0 (by rw [perm_len hs ht]; exact c1)
        rw [Int.toNat_natCast] at this
        rw [Pf.atI_nat, List.getElem?_map, this]
        rfl
      simp [lcW, pF, List.lookup, g]
  rw [fm_some] at e2
  rw [evF]
  simp [H.h24, d_24, b_24, List.findIdx?, List.findIdx?.go, e2]
theorem index_bk {s : List Int} (nd : s.Nodup) {y : Int} (h : y ∈ s) : blD .index (.lst (s.map .int)) [.int y] = .ok (.int (bk s y)) := by
  have hi := List.idxOf_lt_length_of_mem h
  exact index_at nd (by rw [List.getElem?_eq_getElem hi, List.getElem_idxOf hi])
theorem ev_back (H : T 25 = some d_25) (n : Nat) {p : Pl} (hs : p.s.Perm (rg p.t)) {b : List Int} (v : Vd p.t b) (hb : b.length ≤ 1000) : evF T pr W (n + 1) 25 [.va (pD p), .va (.lst (b.map .int))] = .ok (.fr (.lst ((b.map (bk p.s)).map .int)), none) := by
  have e2 : evE T (evF T pr W n) c_25_0 [.va (pD p), .va (.lst (b.map .int)), .un] = .ok (.fr (.lst (b.filterMap fun x => some (.int (bk p.s x)))), [.va (pD p), .va (.lst (b.map .int)), .un]) := by
    refine evE_lc_pure (fun c : Int => D.int c) _ b ?_ ?_ ?_ fun c hc => ⟨[.va (pD p), .va (.lst (b.map .int)), .va (.int c)], ?_⟩
    · simp
    · simp
    · rw [sizeLine_eq]; omega
    · have g := index_bk (perm_nodup hs) ((perm_mem hs).mpr (v c hc))
      simp [lcW, pF, List.lookup, g]
  rw [fm_some] at e2
  rw [evF]
  simp [H, d_25, b_25, List.findIdx?, List.findIdx?.go, e2]
theorem zip_get {r : List Int} {i : Nat} {d : D} (h : ((r.map D.int).zipIdx.map fun z => D.tup [.int z.2, z.1])[i]? = some d) : ∃ c, r[i]? = some c ∧ d = .tup [.int (i : Nat), .int c] := by
  rw [List.getElem?_map, List.getElem?_zipIdx, List.getElem?_map] at h
  cases w : r[i]? with
  | none => rw [w] at h; cases h
  | some c =>
    rw [w] at h
    refine ⟨c, rfl, ?_⟩
    have := (Option.some.inj h).symm
    simpa using this
end Wm

/-! Q1: writing: numbers of rows, groups, codes -/
namespace Wm
open PySem L2 Pf Pd
variable {T : Tab} {pr : Nat → CF} {W : Nat}
theorem ev_rn (H : T 0 = some d_0) (n : Nat) {m : Int} (h1 : 2 ≤ m) (h2 : m ≤ 16) (r : List Int) : evF T pr W (n + 1) 0 [.va (.lst (r.map .int)), .va (.int m)] = .ok (.va (.int (num m r)), none) := by
  obtain ⟨w, hw, e1⟩ : ∃ (w : Sl), Fr w ∧ evS T (evF T pr W n) W w_0_0 [.va (.lst (r.map .int)), .va (.int m), .va (.int 0), .un] = .ok (.nx, [.va (.lst (r.map .int)), .va (.int m), .va (.int (num m r)), w]) := by
    unfold w_0_0
    rw [evS]
    simp only [evI, evE, List.getElem?_cons_zero, Rs.bind_ok, Pf.settle, Rs.of_some]
    obtain ⟨sl', e, w, hw, es⟩ := forLoop_inv (r.map .int) (body := fun d sl => (giveT (.one 3) d sl).bind fun sl => evSs T (evF T pr W n) W (.cons (.asg 2 (.bin .add (.bin .add (.bin .mul (.var 2) (.var 1)) (.var 3)) (.cI 1))) .nil) sl)
      (I := fun i sl => ∃ (w : Sl), Fr w ∧ sl = [.va (.lst (r.map .int)), .va (.int m), .va (.int (num m (r.take i))), w]) (sl := [.va (.lst (r.map .int)), .va (.int m), .va (.int 0), .un])
      ⟨.un, .inl rfl, rfl⟩ (fun i d sl hd ⟨w, hw, es⟩ => by
        obtain ⟨c, hc, rfl⟩ := get_map_int hd
        subst es
        refine ⟨[.va (.lst (r.map .int)), .va (.int m), .va (.int (num m (r.take (i + 1)))), .va (.int c)], ?_, _, .inr ⟨_, rfl⟩, rfl⟩
        have hm : ∀ i, binD .mul (.int i) (.int m) = .ok (.va (.int (i * m))) := fun i => bin_mulR i m ⟨by omega, by omega⟩
        rw [take_succ hc, num_snoc]
        rcases hw with rfl | ⟨d', rfl⟩ <;> simp [hm])
    refine ⟨w, hw, by rw [e, es, List.length_map, List.take_length]⟩
  rw [evF]
  simp [H, d_0, b_0, List.findIdx?, List.findIdx?.go, e1]
theorem snoc_cases {α : Type} (l : List α) : l = [] ∨ ∃ r d, l = r ++ [d] := by
  rcases List.eq_nil_or_concat l with h | ⟨r, d, h⟩
  · exact .inl h
  · exact .inr ⟨r, d, by rw [h, List.concat_eq_append]⟩
theorem ev_rowat (hW : 2000 ≤ W) (H : T 1 = some d_1) (n : Nat) {m : Int} (h1 : 2 ≤ m) (h2 : m ≤ 16) {r : List Int} (v : Vd m r) (hr : r.length ≤ 1000) : evF T pr W (n + 1) 1 [.va (.int (num m r)), .va (.int m)] = .ok (.fr (.lst (r.map .int)), none) := by
  obtain ⟨x, e1⟩ : ∃ x : Sl, evS T (evF T pr W n) W w_1_0 [.va (.int (num m r)), .va (.int m), .ow true (.lst [])] = .ok (.nx, [x, .va (.int m), .ow true (.lst (r.reverse.map .int))]) := by
    unfold w_1_0
    rw [evS]
    obtain ⟨sl', e, q, hq⟩ := whlLoop_inv (test := fun sl => evT T (evF T pr W n) (.cmp .gt (.var 0) (.cI 0)) sl) (body := fun sl => evSs T (evF T pr W n) W (.cons (.aug 0 .sub (.cI 1)) (.cons (.ex (.bm .append (.var 2) (.cons (.bin .mod (.var 0) (.var 1)) .nil))) (.cons (.asg 0 (.bin .fdiv (.var 0) (.var 1))) .nil))) sl)
      (I := fun sl => ∃ p q, r = p ++ q ∧ sl = [.va (.int (num m p)), .va (.int m), .ow true (.lst (q.reverse.map .int))])
      (μ := fun sl : Sls => match sl[2]? with | some (Sl.ow _ (OP.lst xs)) => r.length - xs.length | _ => 0)
      (Q := fun sl => ∃ x : Sl, sl = [x, .va (.int m), .ow true (.lst (r.reverse.map .int))]) (fun sl ⟨p, q, hpq, es⟩ => by
        subst es
        rcases snoc_cases p with rfl | ⟨p', d, rfl⟩
        · refine .inl ⟨[.va (.int 0), .va (.int m), .ow true (.lst (q.reverse.map .int))], by simp [numF], .va (.int 0), ?_⟩
          rw [hpq, List.nil_append]
        · have hd : 0 ≤ d ∧ d < m := v d (by rw [hpq]; simp)
          have vp : Vd m p' := fun y hy => v y (by rw [hpq]; simp [hy])
          have hn : 0 < num m (p' ++ [d]) := by
            have := num_nonneg (show (1 : Int) ≤ m by omega) vp
            have := Int.mul_nonneg this (show 0 ≤ m by omega)
            rw [num_snoc]; omega
          obtain ⟨l1, l2⟩ := num_last (show (1 : Int) ≤ m by omega) (r := p') hd
          have hl : q.length + 1 ≤ r.length := by rw [hpq, List.length_append, List.length_append]; simp only [List.length_cons, List.length_nil]; omega
          refine .inr ⟨[.va (.int (num m (p' ++ [d]))), .va (.int m), .ow true (.lst (q.reverse.map .int))], [.va (.int (num m p')), .va (.int m), .ow true (.lst ((d :: q).reverse.map .int))], by simp [hn], ?_, ⟨p', d :: q, by rw [hpq]; simp, rfl⟩, ?_⟩
          · have hz : q.length < 16777216 := by omega
            simp [l1, l2, show (0 : Int) < m by omega, show m < 1073741824 by omega, sizeLine_eq, hz]
          · simp; omega) W [.va (.int (num m r)), .va (.int m), .ow true (.lst [])] ⟨r, [], by simp, rfl⟩ (by simp; omega)
    exact ⟨q, by rw [← hq]; exact e⟩
  rw [evF]
  simp [H, d_1, b_1, List.findIdx?, List.findIdx?.go, e1, sizeLine_eq]
theorem len_bound {t : Int} (h1 : 3 ≤ t) (h2 : t ≤ 16) {b r : List Int} (v : Vd t b) (hb : b.length ≤ 60) (w : Vd (t - 1) r) (e : num (t - 1) r = num t b) : r.length ≤ 300 := by
  by_cases q : r.length ≤ 300
  · exact q
  · have a1 := (num_between (show (1 : Int) ≤ t by omega) b v).2
    have a2 := (num_between (show (1 : Int) ≤ t - 1 by omega) r w).1
    have a3 := ahead_mono (show (1 : Int) ≤ t - 1 by omega) (show 300 ≤ r.length by omega)
    have a4 := ahead_base (show (1 : Int) ≤ 2 by omega) (show (2 : Int) ≤ t - 1 by omega) 300
    have a5 := ahead_mono (show (1 : Int) ≤ t by omega) (show b.length + 1 ≤ 61 by omega)
    have a6 := ahead_base (show (1 : Int) ≤ t by omega) h2 61
    have a7 : ahead 16 61 < ahead 2 300 := by decide +kernel
    omega
/-! ### counts -/
/-- a row without ends in groups -/
def grp (e : Int) (z : Nat) (last : Bool) : Nat → List Int → List Int → List Int
  | 0, _, found => found
  | n + 1, row, found => if z ≤ row.length then grp e z last n (row.drop z) (found ++ (sg e z :: row.take z)) else if row ≠ [] ∨ found = [] ∨ last = false then found ++ (sg e row.length :: row) else found
theorem cut_take {α : Type} (xs : List α) (n : Nat) : cutA xs none (some (n : Int)) = xs.take n := by
  have hn : ¬ (n : Int) < 0 := by omega
  unfold cutA HT.sIx
  simp [hn]
theorem cut_drop {α : Type} (xs : List α) (n : Nat) : cutA xs (some (n : Int)) none = xs.drop n := by
  have hn : ¬ (n : Int) < 0 := by omega
  unfold cutA HT.sIx
  simp [hn]
  by_cases h : n ≤ xs.length
  · rw [Nat.min_eq_left h, List.take_of_length_le (by simp)]
  · rw [Nat.min_eq_right (by omega), Nat.sub_self, List.take_zero, List.drop_of_length_le (by omega)]
theorem grp_len (e : Int) {z : Nat} (hz : 1 ≤ z) (last : Bool) : ∀ (n : Nat) (row found : List Int), row.length < n → (grp e z last n row found).length ≤ found.length + 2 * row.length + 1
  | 0, row, found, h => absurd h (Nat.not_lt_zero _)
  | n + 1, row, found, h => by
    unfold grp
    split
    · rename_i hl
      have := grp_len e hz last n (row.drop z) (found ++ (sg e z :: row.take z)) (by rw [List.length_drop]; omega)
      rw [List.length_drop, List.length_append, List.length_cons, List.length_take] at this
      omega
    · split
      · rw [List.length_append, List.length_cons]; omega
      · omega
theorem ev_grouped (hW : 2000 ≤ W) (H : Hw T pr) (H3 : T 3 = some d_3) (n : Nat) {p : Pl} (h : Te p) {z : Nat} (hz : p.l = z + 1) (hz1 : 1 ≤ z) (hz2 : (z : Int) + 1 < p.t) (last : Bool) {row : List Int} (hr : row.length ≤ 1000) :
    evF T pr W (n + 2) 3 [.va (pD p), .va (.lst (row.map .int)), .va (.bl last)] = .ok (.fr (.lst ((grp p.e z last (row.length + 1) row []).map .int)), none) := by
  have e1 := ev_pplain (W := W) H n h
  have gz : ∀ k : Nat, k ≤ z → atI ((plL p.t p.e).map D.int) (k : Int) = some (.int (sg p.e k)) := fun k hk => atI_pl (by omega) (by omega)
  obtain ⟨row', found', x1, e2, e3, e4, e5, e6⟩ : ∃ (row' found' : List Int) (x1 : Sl), evS T (evF T pr W (n + 1)) W w_3_0 [.va (pD p), .va (.lst (row.map .int)), .va (.bl last), .ow true (.lst ((plL p.t p.e).map .int)), .va (.int z), .ow true (.lst [])] = .ok (.nx, [.va (pD p), x1, .va (.bl last), .ow true (.lst ((plL p.t p.e).map .int)), .va (.int z), .ow true (.lst (found'.map .int))]) ∧
      (x1 = .va (.lst (row'.map .int)) ∨ x1 = .ow true (.lst (row'.map .int))) ∧ row'.length < z ∧ found'.length + 2 * row'.length ≤ 2 * row.length ∧ grp p.e z last (row.length + 1) row [] = if row' ≠ [] ∨ found' = [] ∨ last = false then found' ++ (sg p.e row'.length :: row') else found' := by
    unfold w_3_0
    rw [evS]
    obtain ⟨sl', e, row', found', x1, hx, hl, hb, hq, es⟩ := whlLoop_inv (test := fun sl => evT T (evF T pr W (n + 1)) (.cmp .ge (.bi .len (.cons (.var 1) .nil)) (.var 4)) sl) (body := fun sl => evSs T (evF T pr W (n + 1)) W (.cons (.ex (.bm .extend (.var 5) (.cons (.bin .add (.lst (.cons (.ix (.var 3) (.var 4)) .nil)) (.sl (.var 1) .none (.some (.var 4)))) .nil))) (.cons (.asg 1 (.sl (.var 1) (.some (.var 4)) .none)) .nil)) sl)
      (I := fun sl => ∃ (row' found' : List Int) (x1 : Sl) (m : Nat), (x1 = .va (.lst (row'.map .int)) ∨ x1 = .ow true (.lst (row'.map .int))) ∧ row'.length < m ∧ found'.length + 2 * row'.length ≤ 2 * row.length ∧ grp p.e z last (row.length + 1) row [] = grp p.e z last m row' found' ∧ sl = [.va (pD p), x1, .va (.bl last), .ow true (.lst ((plL p.t p.e).map .int)), .va (.int z), .ow true (.lst (found'.map .int))])
      (μ := fun sl : Sls => match sl[1]? with | some (Sl.va (D.lst xs)) => xs.length | some (Sl.ow _ (OP.lst xs)) => xs.length | _ => 0)
      (Q := fun sl => ∃ (row' found' : List Int) (x1 : Sl), (x1 = .va (.lst (row'.map .int)) ∨ x1 = .ow true (.lst (row'.map .int))) ∧ row'.length < z ∧ found'.length + 2 * row'.length ≤ 2 * row.length ∧ (grp p.e z last (row.length + 1) row [] = if row' ≠ [] ∨ found' = [] ∨ last = false then found' ++ (sg p.e row'.length :: row') else found') ∧ sl = [.va (pD p), x1, .va (.bl last), .ow true (.lst ((plL p.t p.e).map .int)), .va (.int z), .ow true (.lst (found'.map .int))]) (fun sl ⟨row', found', x1, m, hx, hm, hb, hq, es⟩ => by
        subst es
        obtain ⟨m, rfl⟩ : ∃ m', m = m' + 1 := ⟨m - 1, by omega⟩
        by_cases c : z ≤ row'.length
        · have c' : (z : Int) ≤ (row'.length : Int) := by omega
          refine .inr ⟨[.va (pD p), x1, .va (.bl last), .ow true (.lst ((plL p.t p.e).map .int)), .va (.int z), .ow true (.lst (found'.map .int))], [.va (pD p), .ow true (.lst ((row'.drop z).map .int)), .va (.bl last), .ow true (.lst ((plL p.t p.e).map .int)), .va (.int z), .ow true (.lst ((found' ++ (sg p.e z :: row'.take z)).map .int))], ?_, ?_, ⟨row'.drop z, found' ++ (sg p.e z :: row'.take z), _, m, .inr rfl, by rw [List.length_drop]; omega, ?_, ?_, rfl⟩, ?_⟩
          · rcases hx with rfl | rfl <;> simp [c']
          · have s1 : 1 + min z row'.length ≤ 16777216 := by omega
            have s2 : found'.length + (min z row'.length + 1) ≤ 16777216 := by omega
            rcases hx with rfl | rfl <;> simp [gz z (Nat.le_refl _), cut_take, cut_drop, sizeLine_eq, s1, s2, List.map_take, List.map_drop]
          · rw [List.length_append, List.length_cons, List.length_take, List.length_drop]; omega
          · rw [hq, grp, if_pos c]
          · rcases hx with rfl | rfl <;> simp <;> omega
        · refine .inl ⟨[.va (pD p), x1, .va (.bl last), .ow true (.lst ((plL p.t p.e).map .int)), .va (.int z), .ow true (.lst (found'.map .int))], ?_, row', found', x1, hx, by omega, hb, ?_, rfl⟩
          · have c' : ¬ (z : Int) ≤ (row'.length : Int) := by omega
            rcases hx with rfl | rfl <;> simp [c']
          · rw [hq, grp, if_neg c]) W [.va (pD p), .va (.lst (row.map .int)), .va (.bl last), .ow true (.lst ((plL p.t p.e).map .int)), .va (.int z), .ow true (.lst [])] ⟨row, [], _, row.length + 1, .inl rfl, by omega, by simp, rfl, rfl⟩ (by simp; omega)
    exact ⟨row', found', x1, by rw [e, es], hx, hl, hb, hq⟩
  rw [e6]
  clear e6
  have s1 : 1 + row'.length ≤ 16777216 := by omega
  have s2 : found'.length + (row'.length + 1) ≤ 16777216 := by omega
  have s3 := gz row'.length (by omega)
  have s4 : atI ((plL p.t p.e).map D.int) 0 = some (.int (sg p.e 0)) := gz 0 (Nat.zero_le _)
  have s5 : found'.length + 1 ≤ 16777216 := by omega
  have s6 : row'.length + 1 ≤ 16777216 := by omega
  have hl : p.l - 1 = z := by omega
  rw [evF]
  rcases e3 with rfl | rfl <;> by_cases c1 : row' = [] <;> by_cases c2 : found' = [] <;> cases last <;>
    simp [H3, d_3, b_3, List.findIdx?, List.findIdx?.go, ioOf, H.h23, d_23, pF, List.lookup, e1, e2, hl, sizeLine_eq, s1, s2, s3, s4, s5, s6, c1, c2]
end Wm

/-! Q1b: counted, coded -/
namespace Wm
open PySem L2 Pf Pd
variable {T : Tab} {pr : Nat → CF} {W : Nat}
theorem splS_mem {e : Int} {s : List (List Int) × List Int} {x : Int} {k : Nat} (h : ∀ r ∈ s.1 ++ [s.2], r.length ≤ k) : ∀ r ∈ (splS e s x).1 ++ [(splS e s x).2], r.length ≤ k + 1 := by
  intro r hr
  unfold splS at hr
  split at hr
  · simp at hr
    rcases hr with hr | rfl | rfl
    · exact Nat.le_succ_of_le (h r (by simp [hr]))
    · exact Nat.le_succ_of_le (h _ (by simp))
    · simp
  · simp at hr
    rcases hr with hr | rfl
    · exact Nat.le_succ_of_le (h r (by simp [hr]))
    · have := h s.2 (by simp)
      simp; omega
theorem splR_mem (e : Int) (ns : List Int) : ∀ r ∈ splR e ns, r.length ≤ ns.length := by
  unfold splR
  induction ns using Pf.rev_ind with
  | h0 => intro r hr; simp [splF] at hr; subst hr; simp
  | hs ns x ih =>
    rw [splF_snoc, List.length_append]
    exact splS_mem ih
/-- the parts' groups -/
def cntL (e : Int) (z : Nat) : List (List Int) → List Int
  | [] => []
  | r :: rs => grp e z rs.isEmpty (r.length + 1) r [] ++ cntL e z rs
theorem cntL_cons (e : Int) (z : Nat) (r : List Int) (rs : List (List Int)) : cntL e z (r :: rs) = grp e z rs.isEmpty (r.length + 1) r [] ++ cntL e z rs := rfl
theorem cntL_nil (e : Int) (z : Nat) : cntL e z [] = [] := rfl
theorem zip_getL {rows : List (List Int)} {i : Nat} {d : D} (h : ((rows.map fun r => D.lst (r.map .int)).zipIdx.map fun z => D.tup [.int z.2, z.1])[i]? = some d) : ∃ r, rows[i]? = some r ∧ d = .tup [.int (i : Nat), .lst (r.map .int)] := by
  rw [List.getElem?_map, List.getElem?_zipIdx, List.getElem?_map] at h
  cases w : rows[i]? with
  | none => rw [w] at h; cases h
  | some c =>
    rw [w] at h
    refine ⟨c, rfl, ?_⟩
    have := (Option.some.inj h).symm
    simpa using this
theorem ev_split (H : T 2 = some d_2) (hp : ∀ n as, pr n 2 as = splCF as) (n : Nat) (e : Int) {row : List Int} (hr : row.length ≤ 1000) :
    evF T pr W (n + 1) 2 [.va (.lst (row.map .int)), .va (.int e)] = .ok (.fr (.lst ((splR e row).map fun r => .lst (r.map .int))), none) := by
  have hz : row.length ≤ 100000 := by omega
  rw [evF]
  simp [H, d_2, splD, hp, splCF, intsD_of, hz]
theorem ev_counted (hW : 2000 ≤ W) (H : Hw T pr) (C : Hc T pr) (n : Nat) {p : Pl} (h : Te p) {z : Nat} (hz : p.l = z + 1) (hz1 : 1 ≤ z) (hz2 : (z : Int) + 1 < p.t) {row : List Int} (hr : row.length ≤ 1000) :
    evF T pr W (n + 3) 4 [.va (pD p), .va (.lst (row.map .int))] = .ok (.fr (.lst ((cntL p.e z (splR p.e row)).map .int)), none) := by
  have e1 := ev_split (W := W) C.h2 C.hp (n + 1) p.e hr
  have hm := splR_mem p.e row
  have hrl : (splR p.e row).length ≤ 1001 := by
    have := (splF_len p.e row).1
    unfold splR
    rw [List.length_append]; simp only [List.length_cons, List.length_nil]; omega
  generalize splR p.e row = rows at e1 hm hrl ⊢
  generalize hg : (fun r : List Int => D.lst (r.map .int)) = g at e1
  obtain ⟨w1, w2, e2⟩ : ∃ (w1 w2 : Sl), evS T (evF T pr W (n + 2)) W w_4_0 [.va (pD p), .va (.lst (row.map .int)), .ow true (.lst (rows.map g)), .ow true (.lst []), .un, .un] = .ok (.nx, [.va (pD p), .va (.lst (row.map .int)), .va (.lst (rows.map g)), .ow true (.lst ((cntL p.e z rows).map .int)), w1, w2]) := by
    unfold w_4_0
    rw [evS]
    simp only [evI, evE, List.getElem?_cons_zero, List.getElem?_cons_succ, Rs.bind_ok, Pf.settle, Rs.of_some, OP.d, List.set_cons_succ, List.set_cons_zero]
    obtain ⟨sl', e, f, w1, w2, hw1, hw2, hf, hl, es⟩ := forLoop_inv ((rows.map g).zipIdx.map fun z => D.tup [.int z.2, z.1]) (body := fun d sl => (giveT (.many [4, 5]) d sl).bind fun sl => evSs T (evF T pr W (n + 2)) W (.cons (.ex (.bm .extend (.var 3) (.cons (.call 3 (.cons (.var 0) (.cons (.var 5) (.cons (.cmp .eq (.var 4) (.bin .sub (.bi .len (.cons (.var 2) .nil)) (.cI 1))) .nil)))) .nil))) .nil) sl)
      (I := fun i sl => ∃ (f : List Int) (w1 w2 : Sl), Fr w1 ∧ Fr w2 ∧ f ++ cntL p.e z (rows.drop i) = cntL p.e z rows ∧ f.length ≤ i * 2001 ∧ sl = [.va (pD p), .va (.lst (row.map .int)), .va (.lst (rows.map g)), .ow true (.lst (f.map .int)), w1, w2]) (sl := [.va (pD p), .va (.lst (row.map .int)), .va (.lst (rows.map g)), .ow true (.lst []), .un, .un])
      ⟨[], .un, .un, .inl rfl, .inl rfl, by simp, by simp, rfl⟩ (fun i d sl hd ⟨f, w1, w2, hw1, hw2, hf, hl, es⟩ => by
        rw [← hg] at hd
        obtain ⟨r, hr', rfl⟩ := zip_getL hd
        subst es
        obtain ⟨hi, hir⟩ := List.getElem?_eq_some_iff.mp hr'
        have hrl' : r.length ≤ 1000 := by
          have := hm r (List.mem_of_getElem? hr')
          omega
        have e3 := ev_grouped hW H C.h3 n h hz hz1 hz2 (decide ((i : Int) = (rows.length : Int) - 1)) hrl'
        have gl := grp_len p.e hz1 (decide ((i : Int) = (rows.length : Int) - 1)) (r.length + 1) r [] (Nat.lt_succ_self _)
        rw [List.drop_eq_getElem_cons hi, hir] at hf
        have hb : (rows.drop (i + 1)).isEmpty = decide ((i : Int) = (rows.length : Int) - 1) := by
          by_cases q : i + 1 = rows.length
          · rw [List.drop_eq_nil_of_le (by omega)]
            simp; omega
          · have : rows.drop (i + 1) ≠ [] := fun z => by
              have := congrArg List.length z
              rw [List.length_drop] at this
              simp at this; omega
            cases q2 : rows.drop (i + 1) with
            | nil => exact absurd q2 this
            | cons a b => simp; omega
        rw [cntL_cons, hb] at hf
        generalize grp p.e z (decide ((i : Int) = (rows.length : Int) - 1)) (r.length + 1) r [] = gr at e3 gl hf
        simp only [List.length_nil] at gl
        refine ⟨[.va (pD p), .va (.lst (row.map .int)), .va (.lst (rows.map g)), .ow true (.lst ((f ++ gr).map .int)), .va (.int (i : Nat)), .va (.lst (r.map .int))], ?_, f ++ gr, _, _, .inr ⟨_, rfl⟩, .inr ⟨_, rfl⟩, by rw [List.append_assoc]; exact hf, by rw [List.length_append, Nat.add_mul]; omega, rfl⟩
        have s1 : f.length + gr.length ≤ 16777216 := by omega
        rcases hw1 with rfl | ⟨d', rfl⟩ <;> rcases hw2 with rfl | ⟨d'', rfl⟩ <;> simp [ioOf, C.h3, d_3, List.findIdx?, List.findIdx?.go, e3, sizeLine_eq, s1])
    rw [List.drop_eq_nil_of_le (by simp)] at hf
    rw [cntL_nil, List.append_nil] at hf
    exact ⟨w1, w2, by rw [e, es, hf]⟩
  rw [evF]
  by_cases hfl : (scs (rows.map g)).isSome = true <;> simp [hfl, C.h4, d_4, b_4, List.findIdx?, List.findIdx?.go, ioOf, C.h2, d_2, splD, pF, List.lookup, e1, e2, sizeLine_eq]
end Wm

/-! Q1c: coded -/
namespace Wm
open PySem L2 Pf Pd
variable {T : Tab} {pr : Nat → CF} {W : Nat}
theorem st1 : ¬ (("counts" : Str) = "codes") := by decide +kernel
theorem st2 : ¬ (("ranks" : Str) = "codes") := by decide +kernel
theorem st3 : ¬ (("ranks" : Str) = "counts") := by decide +kernel
theorem st4 : ¬ (("codes" : Str) = "counts") := by decide +kernel
/-- the row of signs below m with a number -/
noncomputable def rowOf (m k : Int) : List Int := if h : 1 ≤ m ∧ 0 ≤ k then Classical.choose (row_ex h.1 h.2) else []
theorem rowOf_ok {m k : Int} (h : 1 ≤ m) (h0 : 0 ≤ k) : Vd m (rowOf m k) ∧ num m (rowOf m k) = k := by
  unfold rowOf
  rw [dif_pos ⟨h, h0⟩]
  exact Classical.choose_spec (row_ex h h0)
theorem rowOf_eq {m k : Int} {r : List Int} (h : 1 ≤ m) (v : Vd m r) (e : num m r = k) : rowOf m k = r := by
  have h0 : 0 ≤ k := by rw [← e]; exact num_nonneg h v
  obtain ⟨a, b⟩ := rowOf_ok h h0
  exact num_inj h a v (b.trans e.symm)
structure PlOk (p : Pl) : Prop extends Te p where
  sp : p.s.Perm (rg p.t)
  kc : p.k = .codes → p.s = rg p.t ∧ (p.c.length : Int) = p.t ∧ ∀ c ∈ p.c, 1 ≤ c.length ∧ c.length ≤ 4 ∧ ∀ x ∈ c, 0 ≤ x ∧ x < p.t ∧ x ≠ p.e
  pf : p.k = .codes → ∀ (i j : Nat) a b, p.c[i]? = some a → p.c[j]? = some b → a <+: b → i = j
  kn : p.k = .counts → 2 ≤ p.l ∧ p.l < p.t
def cdAt (p : Pl) (x : Int) : List Int := p.c.getD x.toNat []
/-- a body without the end -/
noncomputable def enc (p : Pl) (b : List Int) : List Int := match p.k with
  | .codes => (b.map (cdAt p)).flatten
  | .counts => cntL p.e (p.l - 1).toNat (splR p.e (b.map (ex p.s)))
  | .ranks => (rowOf (p.t - 1) (num p.t (b.map (ex p.s)))).map (sg p.e)
theorem vd_ex {p : Pl} (h : PlOk p) {b : List Int} (v : Vd p.t b) : Vd p.t (b.map (ex p.s)) := fun x hx => by
  obtain ⟨y, hy, rfl⟩ := List.mem_map.mp hx
  exact ex_range h.sp (v y hy).1 (v y hy).2
theorem cd_at {p : Pl} {x : Int} (h0 : 0 ≤ x) (h1 : x < p.c.length) : atI (p.c.map tupD) x = some (tupD (cdAt p x)) ∧ p.c[x.toNat]? = some (cdAt p x) := by
  obtain ⟨i, rfl⟩ : ∃ i : Nat, x = i := ⟨x.toNat, by omega⟩
  have hi : i < p.c.length := by omega
  have e : p.c[i]? = some (cdAt p i) := by
    unfold cdAt
    rw [Int.toNat_natCast, List.getD_eq_getElem?_getD, List.getElem?_eq_getElem hi]
    rfl
  rw [Pf.atI_nat, List.getElem?_map, Int.toNat_natCast, e]
  exact ⟨rfl, rfl⟩
theorem ev_coded_c (H : Hw T pr) (C : Hc T pr) (n : Nat) {p : Pl} (h : PlOk p) (hk : p.k = .codes) {b : List Int} (v : Vd p.t b) (hb : b.length ≤ 1000) :
    evF T pr W (n + 1) 5 [.va (pD p), .va (.lst (b.map .int))] = .ok (.fr (.lst ((enc p b).map .int)), none) := by
  obtain ⟨hs, hl, hc⟩ := h.kc hk
  have en : enc p b = (b.map (cdAt p)).flatten := by unfold enc; rw [hk]
  rw [en]
  obtain ⟨w, e2⟩ : ∃ (w : Sl), evS T (evF T pr W n) W w_5_0 [.va (pD p), .va (.lst (b.map .int)), .ow true (.lst []), .un, .un, .un, .un] = .ok (.nx, [.va (pD p), .va (.lst (b.map .int)), .ow true (.lst (((b.map (cdAt p)).flatten).map .int)), w, .un, .un, .un]) := by
    unfold w_5_0
    rw [evS]
    simp only [evI, evE, List.getElem?_cons_zero, List.getElem?_cons_succ, Rs.bind_ok, Pf.settle, Rs.of_some]
    obtain ⟨sl', e, w, hw, hln, es⟩ := forLoop_inv (b.map D.int) (body := fun d sl => (giveT (.one 3) d sl).bind fun sl => evSs T (evF T pr W n) W (.cons (.ex (.bm .extend (.var 2) (.cons (.ix (.fld (.var 0) 0 5) (.var 3)) .nil))) .nil) sl)
      (I := fun i sl => ∃ (w : Sl), Fr w ∧ (((b.take i).map (cdAt p)).flatten).length ≤ 4 * i ∧ sl = [.va (pD p), .va (.lst (b.map .int)), .ow true (.lst ((((b.take i).map (cdAt p)).flatten).map .int)), w, .un, .un, .un]) (sl := [.va (pD p), .va (.lst (b.map .int)), .ow true (.lst []), .un, .un, .un, .un])
      ⟨.un, .inl rfl, by simp, by simp⟩ (fun i d sl hd ⟨w, hw, hln, es⟩ => by
        obtain ⟨x, hx, rfl⟩ := get_map_int hd
        subst es
        obtain ⟨x0, x1⟩ := v x (List.mem_of_getElem? hx)
        obtain ⟨g1, g2⟩ := cd_at (p := p) x0 (by omega)
        obtain ⟨c1, c2, _⟩ := hc _ (List.mem_of_getElem? g2)
        have hi : i < b.length := (List.getElem?_eq_some_iff.mp hx).1
        rw [take_succ hx, List.map_append, List.flatten_append]
        generalize ((b.take i).map (cdAt p)).flatten = f at hln ⊢
        have ef : (List.map (cdAt p) [x]).flatten = cdAt p x := by simp
        rw [ef]
        generalize cdAt p x = cx at g1 c1 c2 ⊢
        refine ⟨[.va (pD p), .va (.lst (b.map .int)), .ow true (.lst ((f ++ cx).map .int)), .va (.int x), .un, .un, .un], ?_, _, .inr ⟨_, rfl⟩, by rw [List.length_append]; omega, rfl⟩
        have s1 : f.length + cx.length ≤ 16777216 := by omega
        rcases hw with rfl | ⟨d', rfl⟩ <;> simp [pF, List.lookup, g1, sizeLine_eq, s1])
    rw [List.length_map, List.take_length] at es
    exact ⟨w, by rw [e, es]⟩
  rw [evF]
  simp [C.h5, d_5, b_5, List.findIdx?, List.findIdx?.go, pF, List.lookup, hk, Kd.str, e2, sizeLine_eq]
theorem ev_coded_n (hW : 2000 ≤ W) (H : Hw T pr) (C : Hc T pr) (n : Nat) {p : Pl} (h : PlOk p) (hk : p.k = .counts) {b : List Int} (v : Vd p.t b) (hb : b.length ≤ 1000) :
    evF T pr W (n + 4) 5 [.va (pD p), .va (.lst (b.map .int))] = .ok (.fr (.lst ((enc p b).map .int)), none) := by
  obtain ⟨l0, l1⟩ := h.kn hk
  have en : enc p b = cntL p.e (p.l - 1).toNat (splR p.e (b.map (ex p.s))) := by unfold enc; rw [hk]
  rw [en]
  have e1 := ev_exch (W := W) H (n + 2) h.sp (by have := h.t3; omega) v hb
  have e3 := ev_counted hW H C n h.toTe (z := (p.l - 1).toNat) (by omega) (by omega) (by omega) (row := b.map (ex p.s)) (by simpa using hb)
  generalize cntL p.e (p.l - 1).toNat (splR p.e (b.map (ex p.s))) = f at e3 ⊢
  generalize b.map (ex p.s) = r at e1 e3
  rw [evF]
  simp [C.h5, d_5, b_5, List.findIdx?, List.findIdx?.go, ioOf, H.h24, d_24, C.h4, d_4, pF, List.lookup, hk, Kd.str, st1, e1, e3, sizeLine_eq]
theorem ev_coded_r (hW : 2000 ≤ W) (H : Hw T pr) (C : Hc T pr) (n : Nat) {p : Pl} (h : PlOk p) (hk : p.k = .ranks) {b : List Int} (v : Vd p.t b) (hb : b.length ≤ 60) :
    evF T pr W (n + 2) 5 [.va (pD p), .va (.lst (b.map .int))] = .ok (.fr (.lst ((enc p b).map .int)), none) := by
  have en : enc p b = (rowOf (p.t - 1) (num p.t (b.map (ex p.s)))).map (sg p.e) := by unfold enc; rw [hk]
  rw [en]
  obtain ⟨t3, t16, h0, h1⟩ := h.toTe
  have vx := vd_ex h v
  have hbx : (b.map (ex p.s)).length ≤ 60 := by simpa using hb
  have e1 := ev_exch (W := W) H n h.sp (by omega) v (by omega)
  generalize b.map (ex p.s) = x at e1 vx hbx ⊢
  obtain ⟨w, er⟩ := rowOf_ok (show (1 : Int) ≤ p.t - 1 by omega) (num_nonneg (show (1 : Int) ≤ p.t by omega) vx)
  generalize rowOf (p.t - 1) (num p.t x) = r at w er ⊢
  have hr := len_bound t3 t16 vx hbx w er
  have e2 := ev_pplain (W := W) H n h.toTe
  have e3 := ev_rn (pr := pr) (W := W) C.h0 n (show 2 ≤ p.t by omega) t16 x
  have e4 := ev_rowat (pr := pr) hW C.h1 n (show 2 ≤ p.t - 1 by omega) (show p.t - 1 ≤ 16 by omega) w (by omega)
  rw [er] at e4
  have e5 : evE T (evF T pr W (n + 1)) c_5_0 [.va (pD p), .va (.lst (b.map .int)), .un, .un, .ow true (.lst (x.map .int)), .ow true (.lst ((plL p.t p.e).map .int)), .un] = .ok (.fr (.lst (r.filterMap fun y => some (.int (sg p.e y)))), [.va (pD p), .va (.lst (b.map .int)), .un, .un, .ow true (.lst (x.map .int)), .ow true (.lst ((plL p.t p.e).map .int)), .un]) := by
    refine evE_lc_pure (fun c : Int => D.int c) _ r ?_ ?_ ?_ fun c hc => ⟨[.va (pD p), .va (.lst (b.map .int)), .un, .un, .ow true (.lst (x.map .int)), .ow true (.lst ((plL p.t p.e).map .int)), .va (.int c)], ?_⟩
    · simp [pF, List.lookup, ioOf, C.h0, C.h1, d_0, d_1, List.findIdx?, List.findIdx?.go, e3, e4]
    · simp
    · rw [sizeLine_eq]; omega
    · obtain ⟨c0, c1⟩ := w c hc
      simp [lcW, atI_pl c0 c1]
  rw [fm_some] at e5
  rw [evF]
  simp [C.h5, d_5, b_5, List.findIdx?, List.findIdx?.go, ioOf, H.h23, d_23, H.h24, d_24, pF, List.lookup, hk, Kd.str, st2, st3, e1, e2, e5]
theorem ev_coded (hW : 2000 ≤ W) (H : Hw T pr) (C : Hc T pr) (n : Nat) {p : Pl} (h : PlOk p) {b : List Int} (v : Vd p.t b) (hb : b.length ≤ 60) :
    evF T pr W (n + 4) 5 [.va (pD p), .va (.lst (b.map .int))] = .ok (.fr (.lst ((enc p b).map .int)), none) := by
  cases hk : p.k with
  | codes => exact ev_coded_c H C (n + 3) h hk v (by omega)
  | counts => exact ev_coded_n hW H C n h hk v (by omega)
  | ranks => exact ev_coded_r hW H C (n + 2) h hk v hb
end Wm

/-! Q2: reading: steps of a machine -/
namespace Wm
open PySem L2 Pf Pd
variable {T : Tab} {pr : Nat → CF} {W : Nat}
@[simp] theorem pys_tup : ∀ cs : List (List Int), D.pys (cs.map tupD) = cs.map fun c => .tuple (c.map .int)
  | [] => by simp [D.pys]
  | c :: cs => by simp [D.pys, pys_tup cs]
@[simp] theorem pls_tup : ∀ cs : List (List Int), D.pls (cs.map tupD) = true
  | [] => by simp [D.pls]
  | c :: cs => by simp [D.pls, D.pl, pls_tup cs]
theorem dep_tup : ∀ cs : List (List Int), PyData.depthAll (cs.map fun c => .tuple (c.map .int)) ≤ 1
  | [] => by simp [PyData.depthAll]
  | c :: cs => by
    have := dep_tup cs
    simp [PyData.depthAll, PyData.depth]
    omega
@[simp] theorem eqv_tup (a b : List Int) : PyData.eqv (.tuple (a.map .int)) (.tuple (b.map .int)) = decide (a = b) := by
  simp [PyData.eqv]
@[simp] theorem eqD_tup (a b : List Int) : eqD (.tup (a.map .int)) (.tup (b.map .int)) = .ok (decide (a = b)) := by
  simp [eqD, D.pl, PyData.depth, PyData.eqv]
@[simp] theorem eqD_tup0 (a : List Int) : eqD (.tup (a.map .int)) (.tup []) = .ok (decide (a = [])) := eqD_tup a []
@[simp] theorem in_tup (neg : Bool) (c : List Int) (cs : List (List Int)) : inD neg (.tup (c.map .int)) (.lst (cs.map tupD)) = .ok (neg ^^ decide (c ∈ cs)) := by
  simp only [inD, D.pl, pls_int, pls_tup, dT, pys_int, pys_tup, PyData.depth, dep_int]
  rw [if_pos ⟨trivial, trivial, by decide⟩]
  congr 2
  induction cs with
  | nil => rfl
  | cons d cs ih =>
    rw [List.map_cons, List.any_cons, ih, eqv_tup]
    by_cases h : c = d
    · subst h; simp
    · have : ¬ d = c := fun e => h e.symm
      simp [h, this]
@[simp] theorem eqD_tups0 (cs : List (List Int)) : eqD (.lst (cs.map tupD)) (.lst []) = .ok (decide (cs = [])) := by
  have := dep_tup cs
  simp only [eqD, D.pl, pls_tup, dL, pys_tup, D.pls, D.pys, PyData.depth]
  rw [if_pos ⟨trivial, trivial, by omega⟩]
  cases cs with
  | nil => simp [PyData.eqv, PyData.eqvAll]
  | cons c cs => simp [PyData.eqv, PyData.eqvAll]
theorem index_tup {cs : List (List Int)} {c : List Int} (h : c ∈ cs) : blD .index (.lst (cs.map tupD)) [.tup (c.map .int)] = .ok (.int (cs.idxOf c : Nat)) := by
  show (if _ then _ else _ : Rs D) = _
  rw [if_pos ⟨by simp [D.pl], pls_tup cs, by simp [PyData.depth]⟩, pys_tup, dT, pys_int]
  have e : PySem.SeqAt.dataPlace (cs.map fun c => PyData.tuple (c.map .int)) (.tuple (c.map .int)) = some (cs.idxOf c) := by
    unfold PySem.SeqAt.dataPlace
    rw [List.findIdx?_eq_some_iff_getElem]
    have hi := List.idxOf_lt_length_of_mem h
    refine ⟨by simpa using hi, ?_, fun j hj => ?_⟩
    · rw [List.getElem_map, eqv_tup, List.getElem_idxOf hi]; simp
    · rw [List.getElem_map, eqv_tup]
      have := List.not_of_lt_findIdx (p := (· == c)) hj
      simpa using this
  rw [e]; rfl
/-! ### machines -/
inductive So where
  | none | part | full
  deriving DecidableEq
def So.str : So → Str
  | .none => "none" | .part => "part" | .full => "full"
inductive St where
  | row (r : List Int)
  | grp (left : Int) (so : So) (bare : Bool)
def St.d : St → D
  | .row r => .tup (r.map .int)
  | .grp l so b => .tup [.int l, .str so.str, .bl b]
/-- a plain sign's place -/
def gs (e x : Int) : Int := if x < e then x else x - 1
theorem gs_sg (e c : Int) : gs e (sg e c) = c := by
  unfold gs sg
  split <;> (try split) <;> omega
theorem sg_gs {e x : Int} (h : x ≠ e) : sg e (gs e x) = x := by
  unfold gs sg
  split <;> (try split) <;> omega
def st0 (p : Pl) : St := if p.k = .counts then .grp 0 .none false else .row []
def stp (p : Pl) : St → Int → Option (St × List Int)
  | .row r, x => if p.k = .codes then (if r ++ [x] ∈ p.c then some (.row [], [(p.c.idxOf (r ++ [x]) : Nat)]) else if p.c.filter (fun o => decide (o.take (r.length + 1) = r ++ [x])) ≠ [] then some (.row (r ++ [x]), []) else none)
      else some (.row (r ++ [x]), [])
  | .grp l so b, x => if 0 < l then some (.grp (l - 1) so b, [bk p.s x]) else
      if p.l < gs p.e x + 1 then none else
      let told := if so = .part then [bk p.s p.e] else []
      if gs p.e x + 1 = p.l then some (.grp (gs p.e x) .full false, told) else some (.grp (gs p.e x) .part (decide (gs p.e x = 0) && decide (so = .full)), told)
noncomputable def lst (p : Pl) : St → Option (List Int)
  | .row r => if p.k = .codes then (if r = [] then some [] else none) else some ((rowOf p.t (num (p.t - 1) (r.map (gs p.e)))).map (bk p.s))
  | .grp l so b => if l = 0 ∧ so ≠ .none ∧ b = false then some [] else none
/-- plain signs -/
def Pn (p : Pl) (r : List Int) : Prop := ∀ x ∈ r, (0 ≤ x ∧ x < p.t) ∧ x ≠ p.e
def StOk (p : Pl) (k : Nat) : St → Prop
  | .row r => p.k ≠ .counts ∧ r.length ≤ k ∧ Pn p r
  | .grp _ _ _ => p.k = .counts
theorem stp_row (p : Pl) (r : List Int) (x : Int) : stp p (.row r) x = (if p.k = .codes then (if r ++ [x] ∈ p.c then some (.row [], [(p.c.idxOf (r ++ [x]) : Nat)]) else if p.c.filter (fun o => decide (o.take (r.length + 1) = r ++ [x])) ≠ [] then some (.row (r ++ [x]), []) else none)
      else some (.row (r ++ [x]), []) : Option (Wm.St × List Int)) := rfl
theorem stp_grp (p : Pl) (l : Int) (so : So) (b : Bool) (x : Int) : stp p (.grp l so b) x = (if 0 < l then some (.grp (l - 1) so b, [bk p.s x]) else
      if p.l < gs p.e x + 1 then none else
      if gs p.e x + 1 = p.l then some (.grp (gs p.e x) .full false, if so = .part then [bk p.s p.e] else []) else some (.grp (gs p.e x) .part (decide (gs p.e x = 0) && decide (so = .full)), if so = .part then [bk p.s p.e] else []) : Option (Wm.St × List Int)) := rfl
theorem stp_ok {p : Pl} {k : Nat} {st st' : St} {x : Int} {told : List Int} (h : StOk p k st) (hx : (0 ≤ x ∧ x < p.t) ∧ x ≠ p.e) (e : stp p st x = some (st', told)) : StOk p (k + 1) st' ∧ told.length ≤ 1 := by
  cases st with
  | row r =>
    obtain ⟨h1, h2, h3⟩ := h
    have h4 : StOk p (k + 1) (.row (r ++ [x])) := ⟨h1, by simp; omega, fun y hy => by
      rcases List.mem_append.mp hy with q | q
      · exact h3 y q
      · rw [List.mem_singleton.mp q]; exact hx⟩
    rw [stp_row] at e
    by_cases c0 : p.k = .codes
    · rw [if_pos c0] at e
      by_cases c1 : r ++ [x] ∈ p.c
      · rw [if_pos c1] at e
        cases e; exact ⟨⟨h1, by simp, fun y hy => absurd hy List.not_mem_nil⟩, by simp⟩
      · rw [if_neg c1] at e
        by_cases c2 : p.c.filter (fun o => decide (o.take (r.length + 1) = r ++ [x])) ≠ []
        · rw [if_pos c2] at e; cases e; exact ⟨h4, by simp⟩
        · rw [if_neg c2] at e; cases e
    · rw [if_neg c0] at e; cases e; exact ⟨h4, by simp⟩
  | grp l so b =>
    rw [stp_grp] at e
    have ht : (if so = .part then [bk p.s p.e] else [] : List Int).length ≤ 1 := by split <;> simp
    by_cases c0 : 0 < l
    · rw [if_pos c0] at e; cases e; exact ⟨h, by simp⟩
    · rw [if_neg c0] at e
      by_cases c1 : p.l < gs p.e x + 1
      · rw [if_pos c1] at e; cases e
      · rw [if_neg c1] at e
        by_cases c2 : gs p.e x + 1 = p.l
        · rw [if_pos c2] at e; cases e; exact ⟨h, ht⟩
        · rw [if_neg c2] at e; cases e; exact ⟨h, ht⟩
theorem sg_range {t e c : Int} (h3 : 0 ≤ e) (h4 : e < t) (h0 : 0 ≤ c) (h1 : c < t - 1) : 0 ≤ sg e c ∧ sg e c < t ∧ sg e c ≠ e := by
  unfold sg
  split <;> omega
theorem gs_range {p : Pl} (h : Te p) {x : Int} (hx : (0 ≤ x ∧ x < p.t) ∧ x ≠ p.e) : 0 ≤ gs p.e x ∧ gs p.e x < p.t - 1 := by
  obtain ⟨a, b, c, d⟩ := h
  unfold gs
  split <;> omega
/-- what a step is as data -/
def stD : Option (Wm.St × List Int) → D
  | none => .non
  | some q => .tup [q.1.d, .lst (q.2.map .int)]
theorem ev_code_step (H : Hr T pr) (n : Nat) {p : Pl} (hk : p.k = .codes) {r : List Int} (hr : r.length ≤ 1000) (x : Int) (hl : p.c.length ≤ 1000) :
    evF T pr W (n + 1) 7 [.va (pD p), .va (.tup (r.map .int)), .va (.int x)] = .ok (.va (stD (stp p (.row r) x)), none) := by
  have hc : ∀ c : List Int, c.length ≤ 2000 → evE T (evF T pr W n) c_7_0 [.va (pD p), .va (.tup (r.map .int)), .va (.int x), .va (.tup (c.map .int)), .un] = .ok (.fr (.lst ((p.c.filter (fun o => decide (o.take c.length = c))).map tupD)), [.va (pD p), .va (.tup (r.map .int)), .va (.int x), .va (.tup (c.map .int)), .un]) := fun c hcl => by
    have e2 : evE T (evF T pr W n) c_7_0 [.va (pD p), .va (.tup (r.map .int)), .va (.int x), .va (.tup (c.map .int)), .un] = .ok (.fr (.lst (p.c.filterMap fun o => if o.take c.length = c then some (tupD o) else none)), [.va (pD p), .va (.tup (r.map .int)), .va (.int x), .va (.tup (c.map .int)), .un]) := by
      refine evE_lc_pure tupD _ p.c ?_ ?_ ?_ fun o ho => ⟨[.va (pD p), .va (.tup (r.map .int)), .va (.int x), .va (.tup (c.map .int)), .va (tupD o)], ?_⟩
      · simp [pF, List.lookup]
      · simp
      · rw [sizeLine_eq]; omega
      · have ec : cutA (o.map D.int) none (some (c.length : Int)) = (o.take c.length).map .int := by rw [cut_take, List.map_take]
        have eq2 := eqD_tup (o.take c.length) c
        rw [List.map_take] at ec eq2
        by_cases q : o.take c.length = c <;> simp [lcW, ec, eq2, q]
    rw [e2]
    congr 4
    induction p.c with
    | nil => rfl
    | cons o os ih =>
      rw [List.filterMap_cons, List.filter_cons]
      by_cases q : o.take c.length = c
      · rw [if_pos q, if_pos (by simpa using q), ih]; rfl
      · rw [if_neg q, if_neg (by simpa using q), ih]
  have hc1 := hc (r ++ [x]) (by simp; omega)
  have er : (r ++ [x]).map D.int = r.map D.int ++ [.int x] := by simp
  have el : (r ++ [x]).length = r.length + 1 := by simp
  have hz : r.length + 1 ≤ 16777216 := by omega
  have hin := in_tup false (r ++ [x]) p.c
  have hix := fun h : r ++ [x] ∈ p.c => index_tup h
  have e0 := eqD_tups0 (p.c.filter (fun o => decide (o.take (r ++ [x]).length = r ++ [x])))
  rw [er] at hc1 hin hix
  rw [el] at hc1 e0
  rw [stp_row, if_pos hk]
  generalize p.c.filter (fun o => decide (o.take (r.length + 1) = r ++ [x])) = fl at hc1 e0 ⊢
  rw [evF]
  by_cases c1 : r ++ [x] ∈ p.c
  · have hix := hix c1
    rw [if_pos c1]
    rw [decide_eq_true c1] at hin
    simp [H.h7, d_7, b_7, List.findIdx?, List.findIdx?.go, pF, List.lookup, sizeLine_eq, hz, hin, hix, St.d, stD]
  · rw [if_neg c1]
    rw [decide_eq_false c1] at hin
    by_cases c2 : fl = []
    · subst c2
      simp at hc1
      simp [H.h7, d_7, b_7, List.findIdx?, List.findIdx?.go, pF, List.lookup, sizeLine_eq, hz, hin, hc1, stD]
    · rw [decide_eq_false c2] at e0
      rw [if_pos c2]
      simp [H.h7, d_7, b_7, List.findIdx?, List.findIdx?.go, pF, List.lookup, sizeLine_eq, hz, hin, hc1, e0, St.d, stD]
theorem so1 : ¬ (("none" : Str) = "part") := by decide +kernel
theorem so2 : ¬ (("full" : Str) = "part") := by decide +kernel
theorem so3 : ¬ (("none" : Str) = "full") := by decide +kernel
theorem so4 : ¬ (("part" : Str) = "full") := by decide +kernel
theorem so5 : ¬ (("part" : Str) = "none") := by decide +kernel
theorem so6 : ¬ (("full" : Str) = "none") := by decide +kernel
theorem ev_count_step (H : Hr T pr) (Hp : Hw T pr) (n : Nat) {p : Pl} (h : PlOk p) (hk : p.k = .counts) (l : Int) (so : So) (b : Bool) {x : Int} (hx : (0 ≤ x ∧ x < p.t) ∧ x ≠ p.e) :
    evF T pr W (n + 2) 8 [.va (pD p), .va (.tup [.int l, .str so.str, .bl b]), .va (.int x)] = .ok (.va (stD (stp p (.grp l so b) x)), none) := by
  obtain ⟨t3, t16, h0, h1⟩ := h.toTe
  have g := gs_range h.toTe hx
  have e1 := ev_back (pr := pr) (W := W) H.h25 n h.sp (b := [x]) (Vd.one hx.1) (by simp)
  have e2 := ev_back (pr := pr) (W := W) H.h25 n h.sp (b := [p.e]) (Vd.one ⟨h0, h1⟩) (by simp)
  have e3 := ev_pplain (W := W) Hp n h.toTe
  have e4 := index_pl (t := p.t) (e := p.e) g.1 g.2
  rw [sg_gs hx.2] at e4
  simp only [List.map_cons, List.map_nil] at e1 e2
  rw [stp_grp]
  rw [evF]
  by_cases c1 : 0 < l
  · simp [H.h8, d_8, b_8, List.findIdx?, List.findIdx?.go, ioOf, H.h25, d_25, pF, List.lookup, c1, e1, sizeLine_eq, St.d, stD]
  · by_cases c2 : p.l < gs p.e x + 1
    · simp [H.h8, d_8, b_8, List.findIdx?, List.findIdx?.go, ioOf, Hp.h23, d_23, pF, List.lookup, c1, c2, e3, e4, sizeLine_eq, St.d, stD]
    · by_cases c3 : gs p.e x + 1 = p.l
      · have c4 : ¬ p.l < p.l := by omega
        have c5 : p.l - 1 = gs p.e x := by omega
        cases so <;> simp [H.h8, d_8, b_8, List.findIdx?, List.findIdx?.go, ioOf, H.h25, d_25, Hp.h23, d_23, pF, List.lookup, c1, c3, c4, c5, e2, e3, e4, sizeLine_eq, St.d, stD, So.str, so1, so2]
      · by_cases c6 : gs p.e x = 0
        · rw [c6] at e4 c2 c3
          simp only [Int.zero_add] at c2 c3
          cases so <;> simp [H.h8, d_8, b_8, List.findIdx?, List.findIdx?.go, ioOf, H.h25, d_25, Hp.h23, d_23, pF, List.lookup, c1, c2, c3, c6, e2, e3, e4, sizeLine_eq, St.d, stD, So.str, so1, so2, so3, so4]
        · have c7 : ¬ gs p.e x + 1 = 1 := by omega
          cases so <;> simp [H.h8, d_8, b_8, List.findIdx?, List.findIdx?.go, ioOf, H.h25, d_25, Hp.h23, d_23, pF, List.lookup, c1, c2, c3, c6, c7, e2, e3, e4, sizeLine_eq, St.d, stD, So.str, so1, so2, so3, so4]
end Wm

/-! Q2b: reading: last, found_body -/
namespace Wm
open PySem L2 Pf Pd
variable {T : Tab} {pr : Nat → CF} {W : Nat}
theorem k_len {p : Pl} (h : PlOk p) (hk : p.k = .codes) : p.c.length ≤ 16 := by
  have := (h.kc hk).2.1
  have := h.t16
  omega
theorem ev_step (H : Hr T pr) (Hp : Hw T pr) (n : Nat) {p : Pl} (h : PlOk p) {k : Nat} (hk : k ≤ 1000) {s : Wm.St} (ho : StOk p k s) {x : Int} (hx : (0 ≤ x ∧ x < p.t) ∧ x ≠ p.e) :
    evF T pr W (n + 3) 9 [.va (pD p), .va s.d, .va (.int x)] = .ok (.va (stD (stp p s x)), none) := by
  cases s with
  | row r =>
    obtain ⟨h1, h2, h3⟩ := ho
    by_cases c : p.k = .codes
    · have e1 := ev_code_step (W := W) H (n + 1) c (r := r) (by omega) x (by have := k_len h c; omega)
      generalize stp p (.row r) x = g at e1 ⊢
      rw [evF]
      simp [H.h9, d_9, b_9, List.findIdx?, List.findIdx?.go, ioOf, H.h7, d_7, pF, List.lookup, c, Kd.str, St.d, e1]
      cases g <;> simp [stD]
    · have hr : p.k = .ranks := by cases q : p.k <;> simp_all
      have hz : r.length + 1 ≤ 16777216 := by omega
      rw [stp_row, if_neg c, evF]
      simp [H.h9, d_9, b_9, List.findIdx?, List.findIdx?.go, pF, List.lookup, hr, Kd.str, st2, st3, St.d, sizeLine_eq, hz, stD]
  | grp l so b =>
    have c : p.k = .counts := ho
    have e1 := ev_count_step (W := W) H Hp n h c l so b hx
    generalize stp p (.grp l so b) x = g at e1 ⊢
    rw [evF]
    simp [H.h9, d_9, b_9, List.findIdx?, List.findIdx?.go, ioOf, H.h8, d_8, pF, List.lookup, c, Kd.str, st1, St.d, e1]
    cases g <;> simp [stD]
theorem ev_first (H : Hr T pr) (n : Nat) {p : Pl} : evF T pr W (n + 1) 6 [.va (pD p)] = .ok (.va (st0 p).d, none) := by
  rw [evF]
  by_cases c : p.k = .counts
  · simp [H.h6, d_6, b_6, List.findIdx?, List.findIdx?.go, pF, List.lookup, c, Kd.str, sizeLine_eq, st0, St.d, So.str]
  · have : p.k = .codes ∨ p.k = .ranks := by cases q : p.k <;> simp_all
    rcases this with q | q <;> simp [H.h6, d_6, b_6, List.findIdx?, List.findIdx?.go, pF, List.lookup, q, Kd.str, sizeLine_eq, st0, St.d, st3, st4]
theorem lst_row (p : Pl) (r : List Int) : lst p (.row r) = if p.k = .codes then (if r = [] then some [] else none) else some ((rowOf p.t (num (p.t - 1) (r.map (gs p.e)))).map (bk p.s)) := rfl
theorem lst_grp (p : Pl) (l : Int) (so : So) (b : Bool) : lst p (.grp l so b) = if l = 0 ∧ so ≠ .none ∧ b = false then some [] else none := rfl
/-- what is told at the end, as a value -/
def lsR : Option (List Int) → Rv
  | none => .va .non
  | some b => .fr (.lst (b.map .int))
theorem vd_gs {p : Pl} (h : Te p) {r : List Int} (hr : Pn p r) : Vd (p.t - 1) (r.map (gs p.e)) := fun x hx => by
  obtain ⟨y, hy, rfl⟩ := List.mem_map.mp hx
  exact gs_range h (hr y hy)
theorem ev_last (hW : 2000 ≤ W) (H : Hr T pr) (Hp : Hw T pr) (n : Nat) {p : Pl} (h : PlOk p) {k : Nat} (hk : k ≤ 1000) {s : Wm.St} (ho : StOk p k s) :
    evF T pr W (n + 2) 10 [.va (pD p), .va s.d] = .ok (lsR (lst p s), none) := by
  cases s with
  | row r =>
    obtain ⟨h1, h2, h3⟩ := ho
    by_cases c : p.k = .codes
    · rw [lst_row, if_pos c, evF]
      by_cases q : r = []
      · subst q
        have := eqD_tup0 []
        simp only [List.map_nil] at this
        simp [H.h10, d_10, b_10, List.findIdx?, List.findIdx?.go, pF, List.lookup, c, Kd.str, St.d, lsR, sizeLine_eq, this]
      · simp [H.h10, d_10, b_10, List.findIdx?, List.findIdx?.go, pF, List.lookup, c, Kd.str, St.d, lsR, sizeLine_eq, q]
    · have hr : p.k = .ranks := by cases q : p.k <;> simp_all
      obtain ⟨t3, t16, h0, h1'⟩ := h.toTe
      have w := vd_gs h.toTe h3
      rw [lst_row, if_neg c]
      have hn := num_nonneg (show (1 : Int) ≤ p.t - 1 by omega) w
      obtain ⟨v, ef⟩ := rowOf_ok (show (1 : Int) ≤ p.t by omega) hn
      have hf := len_base (show (1 : Int) ≤ p.t - 1 by omega) (show p.t - 1 ≤ p.t by omega) w v ef.symm
      rw [List.length_map] at hf
      generalize rowOf p.t (num (p.t - 1) (r.map (gs p.e))) = f at v ef hf ⊢
      have e2 := ev_pplain (W := W) Hp n h.toTe
      have e3 := ev_rn (pr := pr) (W := W) H.h0 n (show 2 ≤ p.t - 1 by omega) (show p.t - 1 ≤ 16 by omega) (r.map (gs p.e))
      have e4 := ev_rowat (pr := pr) hW H.h1 n (show 2 ≤ p.t by omega) t16 v (by omega)
      have e6 := ev_back (pr := pr) (W := W) H.h25 n h.sp v (by omega)
      rw [ef] at e4
      have e5 : evE T (evF T pr W (n + 1)) c_10_0 [.va (pD p), .va (.tup (r.map .int)), .un, .un, .un, .ow true (.lst ((plL p.t p.e).map .int)), .un, .un] = .ok (.fr (.lst (r.filterMap fun x => some (.int (gs p.e x)))), [.va (pD p), .va (.tup (r.map .int)), .un, .un, .un, .ow true (.lst ((plL p.t p.e).map .int)), .un, .un]) := by
        refine evE_lc_pure (fun c : Int => D.int c) _ r ?_ ?_ ?_ fun c hc => ⟨[.va (pD p), .va (.tup (r.map .int)), .un, .un, .un, .ow true (.lst ((plL p.t p.e).map .int)), .un, .va (.int c)], ?_⟩
        · simp
        · simp
        · rw [sizeLine_eq]; omega
        · have g := gs_range h.toTe (h3 c hc)
          have e7 := index_pl (t := p.t) (e := p.e) g.1 g.2
          rw [sg_gs (h3 c hc).2] at e7
          simp [lcW, e7]
      rw [fm_some] at e5
      have er : r.map (fun x => D.int (gs p.e x)) = (r.map (gs p.e)).map .int := by rw [List.map_map]; rfl
      rw [er] at e5
      generalize r.map (gs p.e) = r' at e3 e4 e5 ef
      have efb : (f.map (bk p.s)).map D.int = (f.map (bk p.s)).map D.int := rfl
      generalize f.map (bk p.s) = fb at e6 ⊢
      rw [evF]
      simp [H.h10, d_10, b_10, List.findIdx?, List.findIdx?.go, ioOf, Hp.h23, d_23, H.h0, d_0, H.h1, d_1, H.h25, d_25, pF, List.lookup, hr, Kd.str, st2, st3, St.d, e2, e3, e4, e5, e6, lsR]
  | grp l so b =>
    have c : p.k = .counts := ho
    rw [lst_grp, evF]
    by_cases c1 : l = 0
    · cases so <;> cases b <;> simp [H.h10, d_10, b_10, List.findIdx?, List.findIdx?.go, pF, List.lookup, c, Kd.str, st1, St.d, So.str, c1, lsR, sizeLine_eq, so5, so6]
    · simp [H.h10, d_10, b_10, List.findIdx?, List.findIdx?.go, pF, List.lookup, c, Kd.str, st1, St.d, c1, lsR, sizeLine_eq]
theorem st_tup : ∀ s : Wm.St, ∃ ds, s.d = .tup ds
  | .row r => ⟨_, rfl⟩
  | .grp l so b => ⟨_, rfl⟩
/-- a machine goes on over some signs -/
def run (p : Pl) : List Int → Wm.St → List Int → Option (Wm.St × List Int)
  | [], s, told => some (s, told)
  | x :: xs, s, told => match stp p s x with
    | none => none
    | some q => run p xs q.1 (told ++ q.2)
/-- the body that is read -/
noncomputable def dec (p : Pl) (row : List Int) : Option (List Int) := match run p row (st0 p) [] with
  | none => none
  | some q => match lst p q.1 with
    | none => none
    | some more => if q.2.length + more.length ≤ 60 then some (q.2 ++ more) else none
theorem st0_ok (p : Pl) : StOk p 0 (st0 p) := by
  unfold st0
  by_cases c : p.k = .counts
  · rw [if_pos c]; exact c
  · rw [if_neg c]; exact ⟨c, by simp, fun x hx => absurd hx List.not_mem_nil⟩
end Wm

/-! Q3: what is written is read back (no program in sight) -/
namespace Wm
open PySem L2 Pf Pd
variable {T : Tab} {pr : Nat → CF} {W : Nat}
theorem run_cons (p : Pl) (x : Int) (xs : List Int) (s : Wm.St) (T : List Int) : run p (x :: xs) s T = match stp p s x with
    | none => none
    | some q => run p xs q.1 (T ++ q.2) := rfl
theorem run_app (p : Pl) : ∀ (xs ys : List Int) (s : Wm.St) (T : List Int), run p (xs ++ ys) s T = match run p xs s T with
    | none => none
    | some q => run p ys q.1 q.2
  | [], ys, s, T => rfl
  | x :: xs, ys, s, T => by
    rw [List.cons_append, run_cons, run_cons]
    cases stp p s x with
    | none => rfl
    | some q => exact run_app p xs ys q.1 (T ++ q.2)
/-! ### codes -/
theorem idx_of {p : Pl} (h : PlOk p) (hk : p.k = .codes) {i : Nat} {c : List Int} (e : p.c[i]? = some c) : p.c.idxOf c = i := by
  have hm := List.mem_of_getElem? e
  have hi := List.idxOf_lt_length_of_mem hm
  exact h.pf hk _ _ c c (by rw [List.getElem?_eq_getElem hi, List.getElem_idxOf hi]) e (List.prefix_refl c)
theorem run_code {p : Pl} (h : PlOk p) (hk : p.k = .codes) {i : Nat} {c : List Int} (e : p.c[i]? = some c) : ∀ (suf pre T : List Int), c = pre ++ suf → suf ≠ [] → run p suf (.row pre) T = some (.row [], T ++ [(i : Int)])
  | [], _, _, _, hn => absurd rfl hn
  | x :: suf, pre, T, hc, _ => by
    unfold run
    rw [stp_row, if_pos hk]
    by_cases q : suf = []
    · subst q
      rw [if_pos (by rw [← hc]; exact List.mem_of_getElem? e), ← hc, idx_of h hk e]
      rfl
    · have n1 : pre ++ [x] ∉ p.c := fun hm => by
        obtain ⟨j, hj⟩ := List.mem_iff_getElem?.mp hm
        have hp : pre ++ [x] <+: c := ⟨suf, by rw [hc]; simp⟩
        have := h.pf hk j i _ _ hj e hp
        rw [this, e] at hj
        have := congrArg List.length (Option.some.inj hj)
        rw [hc] at this
        simp at this
        exact q this
      have n2 : p.c.filter (fun o => decide (o.take (pre.length + 1) = pre ++ [x])) ≠ [] := fun z => by
        have : c ∈ p.c.filter (fun o => decide (o.take (pre.length + 1) = pre ++ [x])) := List.mem_filter.mpr ⟨List.mem_of_getElem? e, by
          have e1 : pre ++ x :: suf = (pre ++ [x]) ++ suf := by simp
          have e2 : pre.length + 1 = (pre ++ [x]).length := by simp
          rw [hc, e1, e2, List.take_left]
          simp⟩
        rw [z] at this
        cases this
      rw [if_neg n1, if_pos n2]
      show run p suf (.row (pre ++ [x])) (T ++ []) = _
      rw [List.append_nil]
      exact run_code h hk e suf (pre ++ [x]) T (by rw [hc]; simp) q
theorem run_codes {p : Pl} (h : PlOk p) (hk : p.k = .codes) : ∀ (b T : List Int), Vd p.t b → run p (b.map (cdAt p)).flatten (.row []) T = some (.row [], T ++ b)
  | [], T, _ => by simp [run]
  | x :: b, T, v => by
    obtain ⟨x0, x1⟩ := v x List.mem_cons_self
    obtain ⟨_, hl, hc⟩ := h.kc hk
    obtain ⟨_, g⟩ := cd_at (p := p) x0 (by omega)
    have hcx := (hc _ (List.mem_of_getElem? g)).1
    rw [List.map_cons, List.flatten_cons, run_app, run_code h hk g (cdAt p x) [] T rfl (fun z => by rw [z] at hcx; simp at hcx)]
    dsimp only
    rw [run_codes h hk b _ (fun y hy => v y (List.mem_cons_of_mem _ hy)), List.append_assoc]
    have : ((x.toNat : Nat) : Int) = x := by omega
    rw [this]; rfl
/-! ### ranks -/
theorem run_ranks {p : Pl} (hk : p.k = .ranks) : ∀ (row s T : List Int), run p row (.row s) T = some (.row (s ++ row), T)
  | [], s, T => by simp [run]
  | x :: row, s, T => by
    have hc : ¬ p.k = .codes := by rw [hk]; decide
    unfold run
    rw [stp_row, if_neg hc]
    show run p row (.row (s ++ [x])) (T ++ []) = _
    rw [List.append_nil, run_ranks hk row (s ++ [x]) T]
    simp
/-! ### counts -/
def endT (p : Pl) (so : So) : List Int := if so = .part then [bk p.s p.e] else []
theorem run_grp {p : Pl} : ∀ (g : List Int) (n : Nat) (so : So) (b : Bool) (T : List Int), g.length = n → run p g (.grp n so b) T = some (.grp 0 so b, T ++ g.map (bk p.s))
  | [], n, so, b, T, h => by
    subst h
    simp [run]
  | x :: g, n, so, b, T, h => by
    subst h
    unfold run
    rw [stp_grp, if_pos (by simp <;> omega)]
    show run p g (.grp (((x :: g).length : Nat) - 1) so b) (T ++ [bk p.s x]) = _
    have e : ((((x :: g).length : Nat) : Int) - 1) = (g.length : Nat) := by rw [List.length_cons]; omega
    rw [e, run_grp g g.length so b _ rfl]
    simp
/-- one group -/
theorem run_one {p : Pl} {z : Nat} (hz : p.l = z + 1) (g : List Int) (so : So) (b : Bool) (T : List Int) (h : g.length ≤ z) :
    run p (sg p.e g.length :: g) (.grp 0 so b) T = some (.grp 0 (if g.length = z then .full else .part) (if g.length = z then false else decide ((g.length : Int) = 0) && decide (so = .full)), T ++ endT p so ++ g.map (bk p.s)) := by
  unfold run
  rw [stp_grp, gs_sg, if_neg (by decide), if_neg (by omega)]
  by_cases c : g.length = z
  · rw [if_pos (by omega), if_pos c, if_pos c]
    show run p g (.grp g.length .full false) (T ++ endT p so) = _
    rw [run_grp g g.length .full false _ rfl]
  · rw [if_neg (by omega), if_neg c, if_neg c]
    show run p g (.grp g.length .part (decide ((g.length : Int) = 0) && decide (so = .full))) (T ++ endT p so) = _
    rw [run_grp g g.length .part _ _ rfl]
theorem run_part {p : Pl} {z : Nat} (hz : p.l = z + 1) (hz1 : 1 ≤ z) (last : Bool) : ∀ (n : Nat) (row found : List Int) (so : So) (b : Bool) (T : List Int), row.length < n → (found ≠ [] → so = .full ∧ b = false) → (found = [] → so ≠ .full) →
    ∃ suf so' b', grp p.e z last n row found = found ++ suf ∧ run p suf (.grp 0 so b) T = some (.grp 0 so' b', T ++ (if suf = [] then [] else endT p so) ++ row.map (bk p.s)) ∧ (last = false → so' = .part) ∧ (last = true → so' ≠ .none ∧ b' = false) ∧ (found = [] → suf ≠ [])
  | 0, row, found, so, b, T, h, _, _ => absurd h (Nat.not_lt_zero _)
  | n + 1, row, found, so, b, T, h, h1, h2 => by
    unfold grp
    by_cases c : z ≤ row.length
    · rw [if_pos c]
      have hl : (row.take z).length = z := by rw [List.length_take]; omega
      obtain ⟨suf, so', b', e1, e2, e3, e4, e5⟩ := run_part hz hz1 last n (row.drop z) (found ++ (sg p.e z :: row.take z)) .full false (T ++ endT p so ++ (row.take z).map (bk p.s)) (by rw [List.length_drop]; omega) (fun _ => ⟨rfl, rfl⟩) (fun q => by simp at q)
      refine ⟨sg p.e z :: row.take z ++ suf, so', b', by rw [e1]; simp, ?_, e3, e4, fun _ => by simp⟩
      have eg := run_one hz (row.take z) so b T (by omega)
      rw [hl, if_pos rfl, if_pos rfl] at eg
      rw [run_app, eg]
      dsimp only
      have hne : ¬ (sg p.e z :: row.take z ++ suf = []) := by simp
      rw [e2, if_neg hne]
      have ef : endT p .full = [] := rfl
      rw [ef]
      have er : row.map (bk p.s) = (row.take z).map (bk p.s) ++ (row.drop z).map (bk p.s) := by rw [← List.map_append, List.take_append_drop]
      rw [er]
      congr 2
      by_cases q : suf = [] <;> simp [q]
    · rw [if_neg c]
      by_cases q : row ≠ [] ∨ found = [] ∨ last = false
      · rw [if_pos q]
        have eg := run_one hz row so b T (by omega)
        rw [if_neg (by omega), if_neg (by omega)] at eg
        refine ⟨sg p.e row.length :: row, _, _, rfl, by rw [eg, if_neg (by simp)], fun _ => rfl, fun hl => ⟨by decide, ?_⟩, fun _ => by simp⟩
        rcases q with q | q | q
        · have : ¬ (row.length : Int) = 0 := fun z => q (List.eq_nil_of_length_eq_zero (by omega))
          simp [q]
        · have := h2 q
          simp [this]
        · rw [q] at hl; cases hl
      · rw [if_neg q]
        have q1 : row = [] := Classical.byContradiction fun z => q (.inl z)
        have q2 : found ≠ [] := fun z => q (.inr (.inl z))
        have q3 : last ≠ false := fun z => q (.inr (.inr z))
        obtain ⟨f1, f2⟩ := h1 q2
        subst q1
        exact ⟨[], so, b, by simp, by simp [run], fun z => absurd z q3, fun _ => ⟨by rw [f1]; decide, f2⟩, fun z => absurd z q2⟩
/-- parts with an end between two -/
def joinE (e : Int) : List (List Int) → List Int
  | [] => []
  | r :: rs => if rs.isEmpty = true then r else r ++ e :: joinE e rs
theorem joinE_cons (e : Int) (r : List Int) (rs : List (List Int)) : joinE e (r :: rs) = if rs.isEmpty = true then r else r ++ e :: joinE e rs := rfl
theorem run_parts {p : Pl} {z : Nat} (hz : p.l = z + 1) (hz1 : 1 ≤ z) : ∀ (rows : List (List Int)) (so : So) (b : Bool) (T : List Int), rows ≠ [] → so ≠ .full →
    ∃ so' b', run p (cntL p.e z rows) (.grp 0 so b) T = some (.grp 0 so' b', T ++ endT p so ++ (joinE p.e rows).map (bk p.s)) ∧ so' ≠ .none ∧ b' = false
  | [], so, b, T, h, _ => absurd rfl h
  | r :: rs, so, b, T, _, hs => by
    obtain ⟨suf, so', b', e1, e2, e3, e4, e5⟩ := run_part hz hz1 rs.isEmpty (r.length + 1) r [] so b T (Nat.lt_succ_self _) (fun q => absurd rfl q) (fun _ => hs)
    rw [cntL_cons, joinE_cons, e1, List.nil_append, run_app, e2, if_neg (e5 rfl)]
    dsimp only
    by_cases c : rs = []
    · subst c
      obtain ⟨f1, f2⟩ := e4 rfl
      exact ⟨so', b', by simp [cntL_nil, run], f1, f2⟩
    · have hi : rs.isEmpty = false := by cases rs with
        | nil => exact absurd rfl c
        | cons _ _ => rfl
      have hp := e3 hi
      subst hp
      obtain ⟨so2, b2, g1, g2, g3⟩ := run_parts hz hz1 rs .part b' (T ++ endT p so ++ r.map (bk p.s)) c (by decide)
      refine ⟨so2, b2, ?_, g2, g3⟩
      rw [g1, if_neg (by rw [hi]; decide)]
      simp [endT]
theorem joinE_snoc (e : Int) (L x : List Int) : ∀ F : List (List Int), joinE e (F ++ [L ++ x]) = joinE e (F ++ [L]) ++ x
  | [] => by simp [joinE]
  | r :: F => by
    rw [List.cons_append, List.cons_append, joinE_cons, joinE_cons, if_neg (by simp), if_neg (by simp), joinE_snoc e L x F]
    simp
theorem joinE_end (e : Int) (L : List Int) : ∀ F : List (List Int), joinE e (F ++ [L, []]) = joinE e (F ++ [L]) ++ [e]
  | [] => by simp [joinE]
  | r :: F => by
    rw [List.cons_append, List.cons_append, joinE_cons, joinE_cons, if_neg (by simp), if_neg (by simp), joinE_end e L F]
    simp
theorem splR_ne (e : Int) (ns : List Int) : splR e ns ≠ [] := by unfold splR; simp
theorem splR_join (e : Int) (ns : List Int) : joinE e (splR e ns) = ns := by
  unfold splR
  induction ns using Pf.rev_ind with
  | h0 => simp [splF, joinE]
  | hs ns x ih =>
    rw [splF_snoc]
    unfold splS
    by_cases c : x = e
    · rw [if_pos c, c]
      dsimp only
      rw [List.append_assoc]
      show joinE e ((splF e ns).1 ++ [(splF e ns).2, []]) = _
      rw [joinE_end, ih]
    · rw [if_neg c]
      dsimp only
      rw [joinE_snoc, ih]
theorem splR_no (e : Int) (ns : List Int) : ∀ r ∈ splR e ns, ∀ x ∈ r, x ∈ ns ∧ x ≠ e := by
  unfold splR
  induction ns using Pf.rev_ind with
  | h0 => intro r hr; simp [splF] at hr; subst hr; intro x hx; cases hx
  | hs ns y ih =>
    rw [splF_snoc]
    intro r hr x hx
    unfold splS at hr
    by_cases c : y = e
    · rw [if_pos c] at hr
      simp at hr
      rcases hr with hr | rfl | rfl
      · have := ih r (by simp [hr]) x hx; exact ⟨by simp [this.1], this.2⟩
      · have := ih _ (by simp) x hx; exact ⟨by simp [this.1], this.2⟩
      · cases hx
    · rw [if_neg c] at hr
      simp at hr
      rcases hr with hr | rfl
      · have := ih r (by simp [hr]) x hx; exact ⟨by simp [this.1], this.2⟩
      · rcases List.mem_append.mp hx with q | q
        · have := ih _ (by simp) x q; exact ⟨by simp [this.1], this.2⟩
        · rw [List.mem_singleton.mp q]; exact ⟨by simp, c⟩
/-! ### all sorts -/
theorem bk_ex_map {p : Pl} (h : PlOk p) {b : List Int} (v : Vd p.t b) : (b.map (ex p.s)).map (bk p.s) = b := by
  rw [List.map_map]
  have : b.map (bk p.s ∘ ex p.s) = b.map id := List.map_congr_left fun x hx => bk_ex h.sp (v x hx).1 (v x hx).2
  rw [this, List.map_id]
theorem gs_sg_map (e : Int) (r : List Int) : (r.map (sg e)).map (gs e) = r := by
  rw [List.map_map]
  have : r.map (gs e ∘ sg e) = r.map id := List.map_congr_left fun x _ => gs_sg e x
  rw [this, List.map_id]
theorem dec_enc {p : Pl} (h : PlOk p) {b : List Int} (v : Vd p.t b) (hb : b.length ≤ 60) : dec p (enc p b) = some b := by
  unfold dec
  cases hk : p.k with
  | codes =>
    have e1 : enc p b = (b.map (cdAt p)).flatten := by unfold enc; rw [hk]
    have e2 : st0 p = .row [] := by unfold st0; rw [hk]; rfl
    rw [e1, e2, run_codes h hk b [] v]
    dsimp only
    rw [lst_row, if_pos hk, if_pos rfl]
    simp [hb]
  | counts =>
    have e1 : enc p b = cntL p.e (p.l - 1).toNat (splR p.e (b.map (ex p.s))) := by unfold enc; rw [hk]
    have e2 : st0 p = .grp 0 .none false := by unfold st0; rw [hk]; rfl
    obtain ⟨l0, l1⟩ := h.kn hk
    obtain ⟨so', b', r1, r2, r3⟩ := run_parts (p := p) (z := (p.l - 1).toNat) (by omega) (by omega) (splR p.e (b.map (ex p.s))) .none false [] (splR_ne _ _) (by decide)
    rw [e1, e2, r1, splR_join, bk_ex_map h v]
    dsimp only
    rw [lst_grp, if_pos ⟨rfl, r2, r3⟩]
    simp [endT, hb]
  | ranks =>
    have e1 : enc p b = (rowOf (p.t - 1) (num p.t (b.map (ex p.s)))).map (sg p.e) := by unfold enc; rw [hk]
    have e2 : st0 p = .row [] := by unfold st0; rw [hk]; rfl
    obtain ⟨t3, t16, _, _⟩ := h.toTe
    have vx := vd_ex h v
    obtain ⟨w, er⟩ := rowOf_ok (show (1 : Int) ≤ p.t - 1 by omega) (num_nonneg (show (1 : Int) ≤ p.t by omega) vx)
    rw [e1, e2, run_ranks hk]
    dsimp only
    rw [lst_row, if_neg (by rw [hk]; decide), List.nil_append, gs_sg_map, er, rowOf_eq (by omega) vx rfl, bk_ex_map h v]
    simp [hb]
theorem pn_app {p : Pl} {a b : List Int} (ha : Pn p a) (hb : Pn p b) : Pn p (a ++ b) := fun x hx => (List.mem_append.mp hx).elim (ha x) (hb x)
theorem pn_sg {p : Pl} (h : Te p) {c : Int} (h0 : 0 ≤ c) (h1 : c < p.t - 1) : (0 ≤ sg p.e c ∧ sg p.e c < p.t) ∧ sg p.e c ≠ p.e := by
  obtain ⟨_, _, a, b⟩ := h
  have := sg_range a b h0 h1
  exact ⟨⟨this.1, this.2.1⟩, this.2.2⟩
theorem pn_cons {p : Pl} {x : Int} {a : List Int} (hx : (0 ≤ x ∧ x < p.t) ∧ x ≠ p.e) (ha : Pn p a) : Pn p (x :: a) := fun y hy => (List.mem_cons.mp hy).elim (fun z => by rw [z]; exact hx) (ha y)
theorem pn_grp {p : Pl} (h : Te p) {z : Nat} (hz : (z : Int) + 1 < p.t) (last : Bool) : ∀ (n : Nat) (row found : List Int), Pn p row → Pn p found → Pn p (grp p.e z last n row found)
  | 0, _, _, _, hf => hf
  | n + 1, row, found, hr, hf => by
    unfold grp
    split
    · refine pn_grp h hz last n _ _ (fun x hx => hr x (List.mem_of_mem_drop hx)) (pn_app hf (pn_cons (pn_sg h (by omega) (by omega)) fun x hx => hr x (List.mem_of_mem_take hx)))
    · split
      · rename_i c _
        exact pn_app hf (pn_cons (pn_sg h (by omega) (by omega)) hr)
      · exact hf
theorem pn_cnt {p : Pl} (h : Te p) {z : Nat} (hz : (z : Int) + 1 < p.t) : ∀ rows : List (List Int), (∀ r ∈ rows, Pn p r) → Pn p (cntL p.e z rows)
  | [], _ => fun x hx => by cases hx
  | r :: rs, hr => by
    rw [cntL_cons]
    exact pn_app (pn_grp h hz _ _ _ _ (hr r List.mem_cons_self) fun x hx => by cases hx) (pn_cnt h hz rs fun s hs => hr s (List.mem_cons_of_mem _ hs))
theorem cnt_len (e : Int) {z : Nat} (hz : 1 ≤ z) : ∀ rows : List (List Int), rows ≠ [] → (cntL e z rows).length ≤ 2 * (joinE e rows).length + 1
  | [], h => absurd rfl h
  | r :: rs, _ => by
    have g := grp_len e hz rs.isEmpty (r.length + 1) r [] (Nat.lt_succ_self _)
    rw [cntL_cons, joinE_cons, List.length_append]
    simp only [List.length_nil] at g
    by_cases c : rs = []
    · subst c
      simp [cntL_nil] at g ⊢
      omega
    · have hi : rs.isEmpty = false := by cases rs with
        | nil => exact absurd rfl c
        | cons _ _ => rfl
      have ih := cnt_len e hz rs c
      rw [if_neg (by rw [hi]; decide), List.length_append, List.length_cons]
      omega
theorem flat_len {α : Type} (k : Nat) : ∀ l : List (List α), (∀ r ∈ l, r.length ≤ k) → l.flatten.length ≤ k * l.length
  | [], _ => by simp
  | r :: l, h => by
    have := flat_len k l fun s hs => h s (List.mem_cons_of_mem _ hs)
    have := h r List.mem_cons_self
    rw [List.flatten_cons, List.length_append, List.length_cons, Nat.mul_add]
    omega
theorem enc_ok {p : Pl} (h : PlOk p) {b : List Int} (v : Vd p.t b) (hb : b.length ≤ 60) : Pn p (enc p b) ∧ (enc p b).length ≤ 300 := by
  obtain ⟨t3, t16, h0, h1⟩ := h.toTe
  cases hk : p.k with
  | codes =>
    have e1 : enc p b = (b.map (cdAt p)).flatten := by unfold enc; rw [hk]
    obtain ⟨_, hl, hc⟩ := h.kc hk
    have key : ∀ r ∈ b.map (cdAt p), r ∈ p.c := fun r hr => by
      obtain ⟨x, hx, rfl⟩ := List.mem_map.mp hr
      exact List.mem_of_getElem? (cd_at (v x hx).1 (by have := (v x hx).2; omega)).2
    rw [e1]
    refine ⟨fun y hy => ?_, ?_⟩
    · obtain ⟨r, hr, hy⟩ := List.mem_flatten.mp hy
      have := (hc r (key r hr)).2.2 y hy
      exact ⟨⟨this.1, this.2.1⟩, this.2.2⟩
    · have := flat_len 4 (b.map (cdAt p)) fun r hr => (hc r (key r hr)).2.1
      rw [List.length_map] at this
      omega
  | counts =>
    have e1 : enc p b = cntL p.e (p.l - 1).toNat (splR p.e (b.map (ex p.s))) := by unfold enc; rw [hk]
    obtain ⟨l0, l1⟩ := h.kn hk
    have vx := vd_ex h v
    rw [e1]
    refine ⟨pn_cnt h.toTe (by omega) _ fun r hr x hx => ?_, ?_⟩
    · obtain ⟨a, c⟩ := splR_no _ _ r hr x hx
      exact ⟨vx x a, c⟩
    · have := cnt_len p.e (z := (p.l - 1).toNat) (by omega) (splR p.e (b.map (ex p.s))) (splR_ne _ _)
      rw [splR_join, List.length_map] at this
      omega
  | ranks =>
    have e1 : enc p b = (rowOf (p.t - 1) (num p.t (b.map (ex p.s)))).map (sg p.e) := by unfold enc; rw [hk]
    have vx := vd_ex h v
    obtain ⟨w, er⟩ := rowOf_ok (show (1 : Int) ≤ p.t - 1 by omega) (num_nonneg (show (1 : Int) ≤ p.t by omega) vx)
    have hr := len_bound t3 t16 vx (by simpa using hb) w er
    rw [e1]
    refine ⟨fun y hy => ?_, by rw [List.length_map]; exact hr⟩
    obtain ⟨c, hc, rfl⟩ := List.mem_map.mp hy
    exact pn_sg h.toTe (w c hc).1 (w c hc).2
end Wm

/-! Q4: ways: no fault is found in a good one -/
namespace Wm
open PySem L2 Pf Pd
variable {T : Tab} {pr : Nat → CF} {W : Nat}
/-- a way without exchanges -/
inductive Bs where
  | codes (t e : Int) (cs : List (List Int))
  | esc (t e m : Int) (ps : List (Int × Int))
  | cnt (t e l : Int)
  | rnk (t e : Int)
def Bs.t : Bs → Int
  | .codes t _ _ => t | .esc t _ _ _ => t | .cnt t _ _ => t | .rnk t _ => t
def Bs.e : Bs → Int
  | .codes _ e _ => e | .esc _ e _ _ => e | .cnt _ e _ => e | .rnk _ e => e
def Bs.w : Bs → Str
  | .codes _ _ _ => "codes" | .esc _ _ _ _ => "escapes" | .cnt _ _ _ => "counts" | .rnk _ _ => "ranks"
abbrev prD (q : Int × Int) : D := .tup [.int q.1, .int q.2]
def Bs.r : Bs → List D
  | .codes _ _ cs => [.tup (cs.map tupD)] | .esc _ _ m ps => [.int m, .tup (ps.map prD)] | .cnt _ _ l => [.int l] | .rnk _ _ => []
def Bs.d (b : Bs) : D := .tup (.str b.w :: .int b.t :: .int b.e :: b.r)
def wayD : List (List Int) → Bs → D
  | [], b => b.d
  | g :: gs, b => .tup [.str "turned", tupD g, wayD gs b]
theorem wt1 : ¬ (("codes" : Str) = "turned") := by decide +kernel
theorem wt2 : ¬ (("escapes" : Str) = "turned") := by decide +kernel
theorem wt3 : ¬ (("counts" : Str) = "turned") := by decide +kernel
theorem wt4 : ¬ (("ranks" : Str) = "turned") := by decide +kernel
theorem wt (b : Bs) : ¬ (b.w = "turned") := match b with
  | .codes _ _ _ => wt1 | .esc _ _ _ _ => wt2 | .cnt _ _ _ => wt3 | .rnk _ _ => wt4
theorem ev_core (hW : 2000 ≤ W) (H : Hw T pr) (n : Nat) (gs : List (List Int)) (hg : gs.length ≤ 1000) (b : Bs) : evF T pr W (n + 1) 11 [.va (wayD gs b)] = .ok (.va b.d, none) := by
  have key : ∀ (gs : List (List Int)) (k : Nat), gs.length < k → whlLoop (fun sl => evT T (evF T pr W n) (.cmp .eq (.ix (.var 0) (.cI 0)) (.cS "turned")) sl) (fun sl => evSs T (evF T pr W n) W (.cons (.asg 0 (.ix (.var 0) (.cI 2))) .nil) sl) k [.va (wayD gs b)] = .ok (.nx, [.va b.d]) := by
    intro gs
    induction gs with
    | nil =>
      intro k hk
      obtain ⟨k, rfl⟩ : ∃ k', k = k' + 1 := ⟨k - 1, by omega⟩
      have := wt b
      unfold whlLoop
      simp [wayD, Bs.d, this]
    | cons g gs ih =>
      intro k hk
      rw [List.length_cons] at hk
      obtain ⟨k, rfl⟩ : ∃ k', k = k' + 1 := ⟨k - 1, by omega⟩
      have := ih k (by omega)
      unfold whlLoop
      simp [wayD]
      simpa using this
  have e1 : evS T (evF T pr W n) W w_11_0 [.va (wayD gs b)] = .ok (.nx, [.va b.d]) := by
    unfold w_11_0
    rw [evS]
    exact key gs W (by omega)
  rw [evF]
  simp [H.h11, d_11, b_11, List.findIdx?, List.findIdx?.go, e1]
theorem ev_turns (hW : 2000 ≤ W) (H : Hw T pr) (n : Nat) (gs : List (List Int)) (hg : gs.length ≤ 1000) (b : Bs) : evF T pr W (n + 1) 12 [.va (wayD gs b)] = .ok (.fr (.lst (gs.map tupD)), none) := by
  have key : ∀ (gs : List (List Int)) (f : List D) (k : Nat), gs.length < k → f.length + gs.length ≤ 1000 → whlLoop (fun sl => evT T (evF T pr W n) (.cmp .eq (.ix (.var 0) (.cI 0)) (.cS "turned")) sl) (fun sl => evSs T (evF T pr W n) W (.cons (.ex (.bm .append (.var 1) (.cons (.ix (.var 0) (.cI 1)) .nil))) (.cons (.asg 0 (.ix (.var 0) (.cI 2))) .nil)) sl) k [.va (wayD gs b), .ow true (.lst f)] = .ok (.nx, [.va b.d, .ow true (.lst (f ++ gs.map tupD))]) := by
    intro gs
    induction gs with
    | nil =>
      intro f k hk hf
      obtain ⟨k, rfl⟩ : ∃ k', k = k' + 1 := ⟨k - 1, by omega⟩
      have := wt b
      unfold whlLoop
      simp [wayD, Bs.d, this]
    | cons g gs ih =>
      intro f k hk hf
      rw [List.length_cons] at hk hf
      obtain ⟨k, rfl⟩ : ∃ k', k = k' + 1 := ⟨k - 1, by omega⟩
      have := ih (f ++ [tupD g]) k (by omega) (by simp; omega)
      have hz : f.length < 16777216 := by omega
      unfold whlLoop
      simp [wayD, sizeLine_eq, hz]
      simpa using this
  have e1 : evS T (evF T pr W n) W w_12_0 [.va (wayD gs b), .ow true (.lst [])] = .ok (.nx, [.va b.d, .ow true (.lst (gs.map tupD))]) := by
    unfold w_12_0
    rw [evS]
    have := key gs [] W (by omega) (by simpa using hg)
    simpa using this
  rw [evF]
  simp [H.h12, d_12, b_12, List.findIdx?, List.findIdx?.go, e1, sizeLine_eq]
theorem ev_isplain (H : Hw T pr) (n : Nat) (x t e : Int) : evF T pr W (n + 1) 13 [.va (.int x), .va (.int t), .va (.int e)] = .ok (.va (.bl (decide (0 ≤ x ∧ x < t ∧ x ≠ e))), none) := by
  rw [evF]
  by_cases c3 : x = e
  · subst c3
    by_cases c1 : 0 ≤ x <;> by_cases c2 : x < t <;> simp [H.h13, d_13, b_13, List.findIdx?, List.findIdx?.go, c1, c2]
  by_cases c1 : 0 ≤ x <;> by_cases c2 : x < t <;> simp [H.h13, d_13, b_13, List.findIdx?, List.findIdx?.go, c1, c2, c3]
theorem ev_areplain (H : Hw T pr) (n : Nat) {r : List Int} {t e : Int} (h : ∀ x ∈ r, 0 ≤ x ∧ x < t ∧ x ≠ e) (hl : r.length ≤ 1000) (d : D) (hd : d = .tup (r.map .int) ∨ d = .lst (r.map .int)) :
    evF T pr W (n + 2) 14 [.va d, .va (.int t), .va (.int e)] = .ok (.va (.bl true), none) := by
  have e2 : evE T (evF T pr W (n + 1)) c_14_0 [.va d, .va (.int t), .va (.int e), .un] = .ok (.fr (.lst (r.filterMap fun _ => (none : Option D))), [.va d, .va (.int t), .va (.int e), .un]) := by
    refine evE_lc_pure (fun c : Int => D.int c) _ r ?_ ?_ ?_ fun c hc => ⟨[.va d, .va (.int t), .va (.int e), .va (.int c)], ?_⟩
    · rcases hd with rfl | rfl <;> simp
    · simp
    · rw [sizeLine_eq]; omega
    · have e1 := ev_isplain (W := W) H n c t e
      rw [decide_eq_true (h c hc)] at e1
      simp [lcW, ioOf, H.h13, d_13, List.findIdx?, List.findIdx?.go, e1]
  have e3 : r.filterMap (fun _ => (none : Option D)) = [] := by
    rw [List.filterMap_eq_nil_iff]
    intro _ _; rfl
  rw [e3] at e2
  rw [evF]
  simp [H.h14, d_14, b_14, List.findIdx?, List.findIdx?.go, e2, sizeLine_eq]
theorem ev_begins (H : Hw T pr) (n : Nat) (a b : List Int) : evF T pr W (n + 1) 15 [.va (tupD a), .va (tupD b)] = .ok (.va (.bl (decide (b.take a.length = a))), none) := by
  have ec : cutA (b.map D.int) none (some (a.length : Int)) = (b.take a.length).map .int := by rw [cut_take, List.map_take]
  have eq2 := eqD_tup (b.take a.length) a
  rw [List.map_take] at ec eq2
  rw [evF]
  simp [H.h15, d_15, b_15, List.findIdx?, List.findIdx?.go, ec, eq2]
theorem take_pre {a b : List Int} : b.take a.length = a ↔ a <+: b := by
  constructor
  · intro h; rw [← h]; exact List.take_prefix _ _
  · rintro ⟨c, rfl⟩; simp
/-- good codes -/
structure CsOk (t e : Int) (cs : List (List Int)) : Prop where
  len : (cs.length : Int) = t
  ok : ∀ c ∈ cs, 1 ≤ c.length ∧ c.length ≤ 4 ∧ ∀ x ∈ c, 0 ≤ x ∧ x < t ∧ x ≠ e
  pf : ∀ (i j : Nat) a b, cs[i]? = some a → cs[j]? = some b → a <+: b → i = j
theorem zip_getT {rows : List (List Int)} {i : Nat} {d : D} (h : ((rows.map tupD).zipIdx.map fun z => D.tup [.int z.2, z.1])[i]? = some d) : ∃ r, rows[i]? = some r ∧ d = .tup [.int (i : Nat), tupD r] := by
  rw [List.getElem?_map, List.getElem?_zipIdx, List.getElem?_map] at h
  cases w : rows[i]? with
  | none => rw [w] at h; cases h
  | some c =>
    rw [w] at h
    refine ⟨c, rfl, ?_⟩
    have := (Option.some.inj h).symm
    simpa using this
theorem get_map_tup {cs : List (List Int)} {i : Nat} {d : D} (h : (cs.map tupD)[i]? = some d) : ∃ c, cs[i]? = some c ∧ d = tupD c := by
  rw [List.getElem?_map] at h
  cases w : cs[i]? with
  | none => rw [w] at h; cases h
  | some c => rw [w] at h; exact ⟨c, rfl, (Option.some.inj h).symm⟩
theorem ev_arecodes (H : Hw T pr) (n : Nat) {t e : Int} {cs : List (List Int)} (h : CsOk t e cs) (ht : t ≤ 16) : evF T pr W (n + 3) 16 [.va (.tup (cs.map tupD)), .va (.int t), .va (.int e)] = .ok (.va (.bl true), none) := by
  have hl := h.len
  obtain ⟨w1, w2, w3, e2⟩ : ∃ (w1 w2 w3 : Sl), evS T (evF T pr W (n + 2)) W w_16_1 [.va (.tup (cs.map tupD)), .va (.int t), .va (.int e), .un, .un, .un] = .ok (.nx, [.va (.tup (cs.map tupD)), .va (.int t), .va (.int e), w1, w2, w3]) := by
    unfold w_16_1
    rw [evS]
    simp only [evI, evE, List.getElem?_cons_zero, List.getElem?_cons_succ, Rs.bind_ok, Pf.settle, Rs.of_some]
    obtain ⟨sl', e', w1, w2, w3, hw1, hw2, hw3, es⟩ := forLoop_inv ((cs.map tupD).zipIdx.map fun z => D.tup [.int z.2, z.1]) (body := fun d sl => (giveT (.many [3, 4]) d sl).bind fun sl => evSs T (evF T pr W (n + 2)) W (.cons (.ite (.or (.cons (.not (.chain .le .le (.cI 1) (.bi .len (.cons (.var 4) .nil)) (.gI "MOST_CODE" 4))) (.cons (.not (.call 14 (.cons (.var 4) (.cons (.var 1) (.cons (.var 2) .nil))))) .nil))) (.cons (.ret (.cB false)) .nil) (.nil)) (.cons (w_16_0) .nil)) sl)
      (I := fun i sl => ∃ (w1 w2 w3 : Sl), Fr w1 ∧ Fr w2 ∧ Fr w3 ∧ sl = [.va (.tup (cs.map tupD)), .va (.int t), .va (.int e), w1, w2, w3]) (sl := [.va (.tup (cs.map tupD)), .va (.int t), .va (.int e), .un, .un, .un])
      ⟨.un, .un, .un, .inl rfl, .inl rfl, .inl rfl, rfl⟩ (fun i d sl hd ⟨w1, w2, w3, hw1, hw2, hw3, es⟩ => by
        obtain ⟨c, hc, rfl⟩ := zip_getT hd
        obtain ⟨c1, c2, c3⟩ := h.ok c (List.mem_of_getElem? hc)
        subst es
        have hi : i < cs.length := (List.getElem?_eq_some_iff.mp hc).1
        have e1 := ev_areplain (W := W) H n c3 (by omega) (tupD c) (.inl rfl)
        obtain ⟨w4, hw4, e3⟩ : ∃ w4 : Sl, Fr w4 ∧ evS T (evF T pr W (n + 2)) W w_16_0 [.va (.tup (cs.map tupD)), .va (.int t), .va (.int e), .va (.int (i : Nat)), .va (tupD c), w3] = .ok (.nx, [.va (.tup (cs.map tupD)), .va (.int t), .va (.int e), .va (.int (i : Nat)), .va (tupD c), w4]) := by
          unfold w_16_0
          rw [evS]
          have ei : evI T (evF T pr W (n + 2)) (.of (.sl (.var 0) .none (.some (.var 3)))) [.va (.tup (cs.map tupD)), .va (.int t), .va (.int e), .va (.int (i : Nat)), .va (tupD c), w3] = .ok ((cs.take i).map tupD, [.va (.tup (cs.map tupD)), .va (.int t), .va (.int e), .va (.int (i : Nat)), .va (tupD c), w3]) := by
            simp [cut_take, List.map_take]
          rw [ei, Rs.bind_ok]
          obtain ⟨sl', e', w4, hw4, es⟩ := forLoop_inv ((cs.take i).map tupD) (body := fun d sl => (giveT (.one 5) d sl).bind fun sl => evSs T (evF T pr W (n + 2)) W (.cons (.ite (.or (.cons (.call 15 (.cons (.var 4) (.cons (.var 5) .nil))) (.cons (.call 15 (.cons (.var 5) (.cons (.var 4) .nil))) .nil))) (.cons (.ret (.cB false)) .nil) (.nil)) .nil) sl)
            (I := fun j sl => ∃ w4 : Sl, Fr w4 ∧ sl = [.va (.tup (cs.map tupD)), .va (.int t), .va (.int e), .va (.int (i : Nat)), .va (tupD c), w4]) (sl := [.va (.tup (cs.map tupD)), .va (.int t), .va (.int e), .va (.int (i : Nat)), .va (tupD c), w3])
            ⟨w3, hw3, rfl⟩ (fun j d sl hd ⟨w4, hw4, es⟩ => by
              obtain ⟨o, ho, rfl⟩ := get_map_tup hd
              subst es
              obtain ⟨hj, _⟩ := List.getElem?_eq_some_iff.mp ho
              rw [List.length_take] at hj
              rw [List.getElem?_take, if_pos (by omega)] at ho
              have b1 := ev_begins (W := W) H (n + 1) c o
              have b2 := ev_begins (W := W) H (n + 1) o c
              have n1 : ¬ o.take c.length = c := fun z => by
                have := h.pf i j c o hc ho (take_pre.mp z); omega
              have n2 : ¬ c.take o.length = o := fun z => by
                have := h.pf j i o c ho hc (take_pre.mp z); omega
              rw [decide_eq_false n1] at b1
              rw [decide_eq_false n2] at b2
              refine ⟨[.va (.tup (cs.map tupD)), .va (.int t), .va (.int e), .va (.int (i : Nat)), .va (tupD c), .va (tupD o)], ?_, _, .inr ⟨_, rfl⟩, rfl⟩
              rcases hw4 with rfl | ⟨d', rfl⟩ <;> simp [ioOf, H.h15, d_15, List.findIdx?, List.findIdx?.go, b1, b2])
          exact ⟨w4, hw4, by rw [e', es]⟩
        refine ⟨[.va (.tup (cs.map tupD)), .va (.int t), .va (.int e), .va (.int (i : Nat)), .va (tupD c), w4], ?_, _, _, _, .inr ⟨_, rfl⟩, .inr ⟨_, rfl⟩, hw4, rfl⟩
        have c1' : (1 : Int) ≤ (c.length : Int) := by omega
        have c2' : (c.length : Int) ≤ 4 := by omega
        rcases hw1 with rfl | ⟨d', rfl⟩ <;> rcases hw2 with rfl | ⟨d'', rfl⟩ <;> simp [ioOf, H.h14, d_14, List.findIdx?, List.findIdx?.go, e1, e3, c1', c2'])
    exact ⟨w1, w2, w3, by rw [e', es]⟩
  rw [evF]
  simp [H.h16, d_16, b_16, List.findIdx?, List.findIdx?.go, e2, hl]
end Wm

/-! Q4b: pairs, faults, need_way -/
namespace Wm
open PySem L2 Pf Pd
variable {T : Tab} {pr : Nat → CF} {W : Nat}
@[simp] theorem atI_4 {α : Type} (a b c d e : α) (l : List α) : atI (a :: b :: c :: d :: e :: l) 4 = some e := atI_nat (i := 4)
/-- good pairs -/
structure PrOk (t e m : Int) (ps : List (Int × Int)) : Prop where
  len : ps.length ≤ 16
  up : (ps.map (·.1)).Pairwise (· < ·)
  rng : ∀ q ∈ ps, 0 ≤ q.1 ∧ q.1 < t
  me : e ∈ ps.map (·.1)
  mm : m ∈ ps.map (·.1)
  mp : 0 ≤ m ∧ m < t ∧ m ≠ e
  nd : (ps.map (·.2)).Nodup
  pl : ∀ q ∈ ps, 0 ≤ q.2 ∧ q.2 < t ∧ q.2 ≠ e
theorem setI_self {ns : List Int} (h : ns.Pairwise (· < ·)) : setI ns = ns := up_unique (setI_up ns) h fun x => mem_setI
theorem setI_len {ns : List Int} (h : ns.Nodup) : (setI ns).length = ns.length :=
  ((List.perm_ext_iff_of_nodup (up_nodup (setI_up ns)) h).mpr fun x => mem_setI).length_eq
theorem ev_arepairs (H : Hw T pr) (n : Nat) {t e m : Int} {ps : List (Int × Int)} (h : PrOk t e m ps) : evF T pr W (n + 3) 17 [.va (.tup (ps.map prD)), .va (.int t), .va (.int e), .va (.int m)] = .ok (.va (.bl true), none) := by
  have hl := h.len
  have e1 : evE T (evF T pr W (n + 2)) c_17_2 [.va (.tup (ps.map prD)), .va (.int t), .va (.int e), .va (.int m), .un, .un, .un, .un] = .ok (.fr (.lst (ps.filterMap fun q => some (.int q.1))), [.va (.tup (ps.map prD)), .va (.int t), .va (.int e), .va (.int m), .un, .un, .un, .un]) := by
    refine evE_lc_pure prD _ ps ?_ ?_ ?_ fun q hq => ⟨[.va (.tup (ps.map prD)), .va (.int t), .va (.int e), .va (.int m), .un, .va (.int q.1), .va (.int q.2), .un], ?_⟩
    · simp
    · simp
    · rw [sizeLine_eq]; omega
    · simp [lcW]
  have e2 : ∀ s : List Int, evE T (evF T pr W (n + 2)) c_17_1 [.va (.tup (ps.map prD)), .va (.int t), .va (.int e), .va (.int m), .ow true (.lst (s.map .int)), .un, .un, .un] = .ok (.fr (.lst (ps.filterMap fun q => some (.int q.2))), [.va (.tup (ps.map prD)), .va (.int t), .va (.int e), .va (.int m), .ow true (.lst (s.map .int)), .un, .un, .un]) := fun s => by
    refine evE_lc_pure prD _ ps ?_ ?_ ?_ fun q hq => ⟨[.va (.tup (ps.map prD)), .va (.int t), .va (.int e), .va (.int m), .ow true (.lst (s.map .int)), .va (.int q.1), .va (.int q.2), .un], ?_⟩
    · simp
    · simp
    · rw [sizeLine_eq]; omega
    · simp [lcW]
  rw [fm_some] at e1
  have e2 := e2 (ps.map (·.1))
  rw [fm_some] at e2
  have m1 : ps.map (fun q => D.int q.1) = (ps.map (·.1)).map .int := by rw [List.map_map]; rfl
  have m2 : ps.map (fun q => D.int q.2) = (ps.map (·.2)).map .int := by rw [List.map_map]; rfl
  rw [m1] at e1
  rw [m2] at e2
  have hs := setI_self h.up
  have hc := setI_len h.nd
  have hr : ∀ x ∈ ps.map (·.1), 0 ≤ x ∧ x < t := fun x hx => by
    obtain ⟨q, hq, rfl⟩ := List.mem_map.mp hx
    exact h.rng q hq
  have e4 := ev_areplain (W := W) H n (r := ps.map (·.2)) (t := t) (e := e) (fun x hx => by
    obtain ⟨q, hq, rfl⟩ := List.mem_map.mp hx
    exact h.pl q hq) (by simp; omega) (.lst ((ps.map (·.2)).map .int)) (.inr rfl)
  have me := h.me
  have mm := h.mm
  have l1 : (ps.map (·.1)).length ≤ 16 := by simpa using hl
  have l2 : (ps.map (·.2)).length ≤ 16 := by simpa using hl
  generalize hP : D.tup (ps.map prD) = P at e1 e2 ⊢
  generalize ps.map (·.1) = s at e1 e2 hs hr me mm l1
  generalize ps.map (·.2) = c at e2 hc e4 l2
  have e3 : evE T (evF T pr W (n + 2)) c_17_0 [.va P, .va (.int t), .va (.int e), .va (.int m), .ow true (.lst (s.map .int)), .un, .un, .ow true (.lst (c.map .int))] = .ok (.fr (.lst (s.filterMap fun _ => (none : Option D))), [.va P, .va (.int t), .va (.int e), .va (.int m), .va (.lst (s.map .int)), .un, .un, .ow true (.lst (c.map .int))]) := by
    refine evE_lc_pure (fun c : Int => D.int c) _ s ?_ ?_ ?_ fun q hq => ⟨[.va P, .va (.int t), .va (.int e), .va (.int m), .va (.lst (s.map .int)), .va (.int q), .un, .ow true (.lst (c.map .int))], ?_⟩
    · simp
    · simp
    · rw [sizeLine_eq]; omega
    · obtain ⟨q1, q2⟩ := hr q hq
      simp [lcW, q1, q2]
  have e5 : s.filterMap (fun _ => (none : Option D)) = [] := by
    rw [List.filterMap_eq_nil_iff]
    intro _ _; rfl
  rw [e5] at e3
  have z1 : biD .sortedSet [.lst (s.map .int)] = .ok (.fr (.lst (s.map .int))) := by
    show (Rs.of (intsD (s.map .int))).bind _ = _
    rw [intsD_of, Rs.of_some, Rs.bind_ok, if_pos (by omega), hs]
  have z2 : biD .lenSet [.lst (c.map .int)] = .ok (.va (.int c.length)) := by
    show (Rs.of (intsD (c.map .int))).bind _ = _
    rw [intsD_of, Rs.of_some, Rs.bind_ok, if_pos (by omega), hc]
  rw [evF]
  simp [H.h17, d_17, b_17, List.findIdx?, List.findIdx?.go, ioOf, H.h14, d_14, e1, e2, e3, e4, z1, z2, me, mm, sizeLine_eq]
def BsOk : Bs → Prop
  | .codes t e cs => CsOk t e cs
  | .esc t e m ps => PrOk t e m ps
  | .cnt t _ l => 2 ≤ l ∧ l < t
  | .rnk _ _ => True
structure WyOk (gs : List (List Int)) (b : Bs) : Prop where
  t3 : 3 ≤ b.t
  t16 : b.t ≤ 16
  e0 : 0 ≤ b.e
  e1 : b.e < b.t
  ok : BsOk b
  gl : gs.length ≤ 3
  gp : ∀ g ∈ gs, g.Perm (rg b.t)
theorem cutw (a b c : D) (r : List D) : cutA (a :: b :: c :: r) none (some 3) = [a, b, c] := cut_take (a :: b :: c :: r) 3
theorem wc1 : ¬ (("escapes" : Str) = "codes") := by decide +kernel
theorem wc2 : ¬ (("codes" : Str) = "escapes") := by decide +kernel
theorem wc3 : ¬ (("counts" : Str) = "escapes") := by decide +kernel
theorem wc4 : ¬ (("ranks" : Str) = "escapes") := by decide +kernel
theorem wc5 : ¬ (("escapes" : Str) = "counts") := by decide +kernel
theorem ev_fault (H : Hw T pr) (n : Nat) {gs : List (List Int)} {b : Bs} (h : WyOk gs b) : evF T pr W (n + 4) 18 [.va b.d] = .ok (.va .non, none) := by
  obtain ⟨h1, h2, h3, h4, h5, _, _⟩ := h
  cases b with
  | codes t e cs =>
    have h5 : CsOk t e cs := h5
    simp only [Bs.t, Bs.e] at h1 h2 h3 h4
    have z := ev_arecodes (W := W) H n h5 h2
    rw [evF]
    simp [H.h18, d_18, b_18, List.findIdx?, List.findIdx?.go, ioOf, H.h16, d_16, Bs.d, Bs.w, Bs.t, Bs.e, Bs.r, cutw, h1, h2, h3, h4, z, wc2, st4]
  | esc t e m ps =>
    have h5 : PrOk t e m ps := h5
    simp only [Bs.t, Bs.e] at h1 h2 h3 h4
    have z := ev_arepairs (W := W) H n h5
    have z2 := ev_isplain (W := W) H (n + 2) m t e
    rw [decide_eq_true h5.mp] at z2
    rw [evF]
    simp [H.h18, d_18, b_18, List.findIdx?, List.findIdx?.go, ioOf, H.h17, d_17, H.h13, d_13, Bs.d, Bs.w, Bs.t, Bs.e, Bs.r, cutw, h1, h2, h3, h4, z, z2, wc1, wc5]
  | cnt t e l =>
    obtain ⟨l1, l2⟩ := (h5 : 2 ≤ l ∧ l < t)
    simp only [Bs.t, Bs.e] at h1 h2 h3 h4
    rw [evF]
    simp [H.h18, d_18, b_18, List.findIdx?, List.findIdx?.go, Bs.d, Bs.w, Bs.t, Bs.e, Bs.r, cutw, h1, h2, h3, h4, l1, l2, st1, wc3]
  | rnk t e =>
    simp only [Bs.t, Bs.e] at h1 h2 h3 h4
    rw [evF]
    simp [H.h18, d_18, b_18, List.findIdx?, List.findIdx?.go, Bs.d, Bs.w, Bs.t, Bs.e, Bs.r, cutw, h1, h2, h3, h4, st2, st3, wc4]
theorem rg_up (t : Int) : (rg t).Pairwise (· ≤ ·) := by
  unfold rg
  rw [List.pairwise_map]
  exact List.Pairwise.imp (fun h => by omega) (List.pairwise_lt_range (n := t.toNat))
theorem sort_perm {g : List Int} {t : Int} (h : g.Perm (rg t)) : sortI g = rg t := (sortI_eq h.symm (rg_up t)).symm
theorem ev_need (hW : 2000 ≤ W) (H : Hw T pr) (n : Nat) {gs : List (List Int)} {b : Bs} (h : WyOk gs b) : evF T pr W (n + 5) 19 [.va (wayD gs b)] = .ok (.va .non, none) := by
  have hg := h.gl
  have e1 := ev_core hW H (n + 3) gs (by omega) b
  have e2 := ev_turns hW H (n + 3) gs (by omega) b
  have e3 := ev_fault (W := W) H n h
  have hl : ¬ (3 : Int) < (gs.length : Int) := by omega
  have t16 := h.t16
  have t3 := h.t3
  obtain ⟨w1, e4⟩ : ∃ w1 : Sl, evS T (evF T pr W (n + 4)) W w_19_0 [.va (wayD gs b), .va .non, .un] = .ok (.nx, [.va (wayD gs b), .va .non, w1]) := by
    unfold w_19_0
    rw [evS]
    have gp := h.gp
    have ei : evI T (evF T pr W (n + 4)) (.of (.call 12 (.cons (.var 0) .nil))) [.va (wayD gs b), .va .non, .un] = .ok (gs.map tupD, [.va (wayD gs b), .va .non, .un]) := by
      by_cases hfl : (scs (gs.map tupD)).isSome = true <;> simp [hfl, ioOf, H.h12, d_12, List.findIdx?, List.findIdx?.go, e2]
    rw [ei, Rs.bind_ok]
    obtain ⟨sl', e', w1, hw1, es⟩ := forLoop_inv (gs.map tupD) (body := fun d sl => (giveT (.one 2) d sl).bind fun sl => evSs T (evF T pr W (n + 4)) W (.cons (.ite (.cmp .ne (.bi .sorted (.cons (.var 2) .nil)) (.bi .listRange (.cons (.ix (.call 11 (.cons (.var 0) .nil)) (.cI 1)) .nil))) (.cons (.never) .nil) (.nil)) .nil) sl)
      (I := fun i sl => ∃ w1 : Sl, Fr w1 ∧ sl = [.va (wayD gs b), .va .non, w1]) (sl := [.va (wayD gs b), .va .non, .un])
      ⟨.un, .inl rfl, rfl⟩ (fun i d sl hd ⟨w1, hw1, es⟩ => by
        obtain ⟨g, hgi, rfl⟩ := get_map_tup hd
        subst es
        have z := sort_perm (gp g (List.mem_of_getElem? hgi))
        have z1 : biD .sorted [tupD g] = .ok (.fr (.lst ((rg b.t).map .int))) := by
          show (Rs.of (intsD (g.map .int))).bind _ = _
          rw [intsD_of, Rs.of_some, Rs.bind_ok, z]
        have z2 : ixD b.d (.int 1) = .ok (.int b.t) := by simp [Bs.d]
        have z3 : biD .listRange [.int b.t] = .ok (.fr (.lst ((rg b.t).map .int))) := by
          rw [bi_rng _ (by omega) (by omega), rangeD_rg]
        have fb : b.d.sc = none := rfl
        refine ⟨[.va (wayD gs b), .va .non, .va (tupD g)], ?_, _, .inr ⟨_, rfl⟩, rfl⟩
        generalize b.d = bd at e1 z2 fb
        have fb' : ∀ (k : Rs (Rv × Sls)), True := fun _ => trivial
        rcases hw1 with rfl | ⟨d', rfl⟩ <;> by_cases hfl : bd.sc.isSome = true <;> simp [-D.sc, hfl, ioOf, H.h11, d_11, List.findIdx?, List.findIdx?.go, e1, z1, z2, z3])
    exact ⟨w1, by rw [e', es]⟩
  generalize wayD gs b = wd at e1 e2 e4
  have fb : b.d = .tup (.str b.w :: .int b.t :: .int b.e :: b.r) := rfl
  rw [fb] at e1 e3
  generalize (.str b.w :: .int b.t :: .int b.e :: b.r : List D) = L at e1 e3
  rw [evF]
  by_cases hfl : (scs (gs.map tupD)).isSome = true <;> simp [hfl, H.h19, d_19, b_19, List.findIdx?, List.findIdx?.go, ioOf, H.h11, d_11, H.h12, d_12, H.h18, d_18, e1, e2, e3, e4, hl, nonD]
end Wm

/-! Q4c: a way as it is followed -/
namespace Wm
open PySem L2 Pf Pd
variable {T : Tab} {pr : Nat → CF} {W : Nat}
theorem rg_map_ex {t : Int} {g : List Int} (h : g.Perm (rg t)) (ht : 0 ≤ t) : (rg t).map (ex g) = g := by
  have hl := perm_len h ht
  apply List.ext_getElem?
  intro i
  rw [List.getElem?_map]
  by_cases c : i < g.length
  · rw [rg_get (by omega), Option.map_some]
    have := ex_get (s := g) (x := i) (by omega) (by omega)
    rw [Int.toNat_natCast] at this
    exact this.symm
  · rw [List.getElem?_eq_none (by rw [rg_len]; omega), List.getElem?_eq_none (by omega)]
    rfl
theorem perm_ex {t : Int} {s g : List Int} (hs : s.Perm (rg t)) (h : g.Perm (rg t)) (ht : 0 ≤ t) : (s.map (ex g)).Perm (rg t) := by
  have := hs.map (ex g)
  rw [rg_map_ex h ht] at this
  exact this.trans h
/-- the signs behind some exchanges -/
def sgn (t : Int) (gs : List (List Int)) : List Int := gs.foldl (fun s g => s.map (ex g)) (rg t)
theorem sgn_perm {t : Int} (ht : 0 ≤ t) {gs : List (List Int)} (h : ∀ g ∈ gs, g.Perm (rg t)) : (sgn t gs).Perm (rg t) := by
  have key : ∀ (gs : List (List Int)) (s : List Int), (∀ g ∈ gs, g.Perm (rg t)) → s.Perm (rg t) → (gs.foldl (fun s g => s.map (ex g)) s).Perm (rg t) := by
    intro gs
    induction gs with
    | nil => intro s _ hs; exact hs
    | cons g gs ih => intro s h hs; exact ih _ (fun x hx => h x (List.mem_cons_of_mem _ hx)) (perm_ex hs (h g List.mem_cons_self) ht)
  exact key gs _ h (List.Perm.refl _)
/-- a code for each sign, by escapes -/
def escC (t m : Int) (ps : List (Int × Int)) : List (List Int) := ps.foldl (fun cs q => cs.set q.1.toNat [m, q.2]) ((rg t).map fun x => [x])
def planOf (gs : List (List Int)) : Bs → Pl
  | .codes t e cs => ⟨.codes, t, e, 0, rg t, (sgn t gs).map fun x => cs.getD x.toNat []⟩
  | .esc t e m ps => ⟨.codes, t, e, 0, rg t, (sgn t gs).map fun x => (escC t m ps).getD x.toNat []⟩
  | .cnt t e l => ⟨.counts, t, e, l, sgn t gs, []⟩
  | .rnk t e => ⟨.ranks, t, e, 0, sgn t gs, []⟩
abbrev pO (w : Str) (t e l : Int) (s : List Int) : List (Nat × F) := [(0, .fz (.str w)), (1, .fz (.int t)), (2, .fz (.int e)), (3, .fz (.int l)), (4, .fz (.lst (s.map .int)))]
def pOF (p : Pl) : List (Nat × F) := [(0, .fz (.str p.k.str)), (1, .fz (.int p.t)), (2, .fz (.int p.e)), (3, .fz (.int p.l)), (4, .fz (.lst (p.s.map .int))), (5, .fz (.lst (p.c.map tupD)))]
theorem pOF_d (p : Pl) : (OP.obj 0 (pOF p)).d = pD p := rfl
theorem iw1 : inD false (.str "codes") (.tup [.str "codes", .str "escapes"]) = .ok true := by
  simp only [inD, D.pl, D.pls, D.pys, dS, PyData.depth]
  rw [if_pos ⟨trivial, by decide, by decide⟩]
  simp [PyData.eqv]
theorem iw2 : inD false (.str "escapes") (.tup [.str "codes", .str "escapes"]) = .ok true := by
  simp only [inD, D.pl, D.pls, D.pys, dS, PyData.depth]
  rw [if_pos ⟨trivial, by decide, by decide⟩]
  simp [PyData.eqv]
theorem iw3 : inD false (.str "counts") (.tup [.str "codes", .str "escapes"]) = .ok false := by
  simp only [inD, D.pl, D.pls, D.pys, dS, PyData.depth]
  rw [if_pos ⟨trivial, by decide, by decide⟩]
  have : (("codes" : Str) == "counts") = false := by decide +kernel
  have : (("escapes" : Str) == "counts") = false := by decide +kernel
  simp [PyData.eqv, *]
theorem iw4 : inD false (.str "ranks") (.tup [.str "codes", .str "escapes"]) = .ok false := by
  simp only [inD, D.pl, D.pls, D.pys, dS, PyData.depth]
  rw [if_pos ⟨trivial, by decide, by decide⟩]
  have : (("codes" : Str) == "ranks") = false := by decide +kernel
  have : (("escapes" : Str) == "ranks") = false := by decide +kernel
  simp [PyData.eqv, *]
theorem at_perm {t x : Int} {g : List Int} (h : g.Perm (rg t)) (h0 : 0 ≤ x) (h1 : x < t) : atI (g.map D.int) x = some (.int (ex g x)) := by
  obtain ⟨i, rfl⟩ : ∃ i : Nat, x = i := ⟨x.toNat, by omega⟩
  have := ex_get (s := g) h0 (by rw [perm_len h (by omega)]; exact h1)
  rw [Int.toNat_natCast] at this
  rw [Pf.atI_nat, List.getElem?_map, this]
  rfl
theorem init_loop (H : Hw T pr) (hW : 2000 ≤ W) (n : Nat) (w : Str) (t e l : Int) (h3 : 3 ≤ t) (h16 : t ≤ 16) {gs : List (List Int)} (hg : gs.length ≤ 1000) (gp : ∀ g ∈ gs, g.Perm (rg t)) (b : Bs) :
    ∃ w1 : Sl, evS T (evF T pr W (n + 1)) W w_21_0 [.ow false (.obj 0 (pO w t e l (rg t))), .va (wayD gs b), .va b.d, .un, .un, .un] = .ok (.nx, [.ow false (.obj 0 (pO w t e l (sgn t gs))), .va (wayD gs b), .va b.d, w1, .un, .un]) := by
  unfold w_21_0
  rw [evS]
  have e2 := ev_turns hW H n gs hg b
  have ei : evI T (evF T pr W (n + 1)) (.of (.call 12 (.cons (.var 1) .nil))) [.ow false (.obj 0 (pO w t e l (rg t))), .va (wayD gs b), .va b.d, .un, .un, .un] = .ok (gs.map tupD, [.ow false (.obj 0 (pO w t e l (rg t))), .va (wayD gs b), .va b.d, .un, .un, .un]) := by
    by_cases hfl : (scs (gs.map tupD)).isSome = true <;> simp [hfl, ioOf, H.h12, d_12, List.findIdx?, List.findIdx?.go, e2]
  rw [ei, Rs.bind_ok]
  obtain ⟨sl', e', w1, s, hw1, hs, hsp, es⟩ := forLoop_inv (gs.map tupD) (body := fun d sl => (giveT (.one 3) d sl).bind fun sl => evSs T (evF T pr W (n + 1)) W (.cons (.setfld 0 0 4 (c_21_1)) .nil) sl)
    (I := fun i sl => ∃ (w1 : Sl) (s : List Int), Fr w1 ∧ s = (gs.take i).foldl (fun s g => s.map (ex g)) (rg t) ∧ s.Perm (rg t) ∧ sl = [.ow false (.obj 0 (pO w t e l s)), .va (wayD gs b), .va b.d, w1, .un, .un]) (sl := [.ow false (.obj 0 (pO w t e l (rg t))), .va (wayD gs b), .va b.d, .un, .un, .un])
    ⟨.un, rg t, .inl rfl, rfl, List.Perm.refl _, rfl⟩ (fun i d sl hd ⟨w1, s, hw1, hs, hsp, es⟩ => by
      obtain ⟨g, hgi, rfl⟩ := get_map_tup hd
      subst es
      have gpi := gp g (List.mem_of_getElem? hgi)
      have hz := perm_len hsp (by omega)
      have e3 : evE T (evF T pr W (n + 1)) c_21_1 [.ow false (.obj 0 (pO w t e l s)), .va (wayD gs b), .va b.d, .va (tupD g), .un, .un] = .ok (.fr (.lst (s.filterMap fun x => some (.int (ex g x)))), [.ow false (.obj 0 (pO w t e l s)), .va (wayD gs b), .va b.d, .va (tupD g), .un, .un]) := by
        refine evE_lc_pure (fun c : Int => D.int c) _ s ?_ ?_ ?_ fun c hc => ⟨[.ow false (.obj 0 (pO w t e l s)), .va (wayD gs b), .va b.d, .va (tupD g), .va (.int c), .un], ?_⟩
        · simp [List.lookup]
        · simp
        · rw [sizeLine_eq]; omega
        · obtain ⟨c0, c1⟩ := (perm_mem hsp).mp hc
          simp [lcW, at_perm gpi c0 c1]
      rw [fm_some] at e3
      have m1 : s.map (fun x => D.int (ex g x)) = (s.map (ex g)).map .int := by rw [List.map_map]; rfl
      rw [m1] at e3
      refine ⟨[.ow false (.obj 0 (pO w t e l (s.map (ex g)))), .va (wayD gs b), .va b.d, .va (tupD g), .un, .un], ?_, .va (tupD g), s.map (ex g), .inr ⟨_, rfl⟩, by rw [take_succ hgi, List.foldl_append, ← hs]; rfl, perm_ex hsp gpi (by omega), rfl⟩
      generalize s.map (ex g) = s' at e3 ⊢
      rcases hw1 with rfl | ⟨d', rfl⟩ <;> simp [e3])
  rw [List.length_map, List.take_length] at hs
  exact ⟨w1, by rw [e', es, hs]; rfl⟩
theorem escC_len (t m : Int) (ps : List (Int × Int)) : (escC t m ps).length = t.toNat := by
  have key : ∀ (ps : List (Int × Int)) (cs : List (List Int)), (ps.foldl (fun cs q => cs.set q.1.toNat [m, q.2]) cs).length = cs.length := by
    intro ps
    induction ps with
    | nil => intro cs; rfl
    | cons q ps ih => intro cs; rw [List.foldl_cons, ih, List.length_set]
  unfold escC
  rw [key, List.length_map, rg_len]
theorem ixN_int {n : Nat} {k : Int} (h0 : 0 ≤ k) (h1 : k < n) : ixN n k = some k.toNat := by
  obtain ⟨i, rfl⟩ : ∃ i : Nat, k = i := ⟨k.toNat, by omega⟩
  rw [ixN_nat (by omega), Int.toNat_natCast]
theorem get_map_pr {cs : List (Int × Int)} {i : Nat} {d : D} (h : (cs.map prD)[i]? = some d) : ∃ c, cs[i]? = some c ∧ d = prD c := by
  rw [List.getElem?_map] at h
  cases w : cs[i]? with
  | none => rw [w] at h; cases h
  | some c => rw [w] at h; exact ⟨c, rfl, (Option.some.inj h).symm⟩
theorem ev_escaped (H : Hw T pr) (n : Nat) {t e m : Int} (h3 : 3 ≤ t) (h16 : t ≤ 16) {ps : List (Int × Int)} (h : PrOk t e m ps) : evF T pr W (n + 1) 20 [.va (Bs.esc t e m ps).d] = .ok (.fr (.lst ((escC t m ps).map tupD)), none) := by
  have e1 : ∀ P : D, evE T (evF T pr W n) c_20_0 [.va P, .va (.str "escapes"), .va (.int t), .va (.int e), .va (.int m), .va (.tup (ps.map prD)), .un, .un, .un] = .ok (.fr (.lst ((rg t).filterMap fun x => some (tupD [x]))), [.va P, .va (.str "escapes"), .va (.int t), .va (.int e), .va (.int m), .va (.tup (ps.map prD)), .un, .un, .un]) := fun P => by
    refine evE_lc_pure (fun c : Int => D.int c) _ (rg t) ?_ ?_ ?_ fun c hc => ⟨[.va P, .va (.str "escapes"), .va (.int t), .va (.int e), .va (.int m), .va (.tup (ps.map prD)), .un, .va (.int c), .un], ?_⟩
    · simp [rangeD_rg, show t < 2 ^ 62 by omega, show -(2 ^ 62) ≤ t by omega]
      omega
    · simp
    · rw [sizeLine_eq, rg_len]; omega
    · simp [lcW, sizeLine_eq]
  have e1 := e1 (Bs.esc t e m ps).d
  rw [fm_some] at e1
  have m1 : (rg t).map (fun x => tupD [x]) = ((rg t).map fun x => [x]).map tupD := by rw [List.map_map]; rfl
  rw [m1] at e1
  obtain ⟨w1, w2, e2⟩ : ∃ w1 w2 : Sl, evS T (evF T pr W n) W w_20_0 [.va (Bs.esc t e m ps).d, .va (.str "escapes"), .va (.int t), .va (.int e), .va (.int m), .va (.tup (ps.map prD)), .ow true (.lst (((rg t).map fun x => [x]).map tupD)), .un, .un] = .ok (.nx, [.va (Bs.esc t e m ps).d, .va (.str "escapes"), .va (.int t), .va (.int e), .va (.int m), .va (.tup (ps.map prD)), .ow true (.lst ((escC t m ps).map tupD)), w1, w2]) := by
    unfold w_20_0
    rw [evS]
    simp only [evI, evE, List.getElem?_cons_zero, List.getElem?_cons_succ, Rs.bind_ok, Pf.settle, Rs.of_some]
    generalize (Bs.esc t e m ps).d = P
    obtain ⟨sl', e', w1, w2, c, hw1, hw2, hc, hcl, es⟩ := forLoop_inv (ps.map prD) (body := fun d sl => (giveT (.many [7, 8]) d sl).bind fun sl => evSs T (evF T pr W n) W (.cons (.setix (.var 6) (.var 7) (.tup (.cons (.var 4) (.cons (.var 8) .nil)))) .nil) sl)
      (I := fun i sl => ∃ (w1 w2 : Sl) (c : List (List Int)), Fr w1 ∧ Fr w2 ∧ c = (ps.take i).foldl (fun cs q => cs.set q.1.toNat [m, q.2]) ((rg t).map fun x => [x]) ∧ (c.length : Int) = t ∧ sl = [.va P, .va (.str "escapes"), .va (.int t), .va (.int e), .va (.int m), .va (.tup (ps.map prD)), .ow true (.lst (c.map tupD)), w1, w2]) (sl := [.va P, .va (.str "escapes"), .va (.int t), .va (.int e), .va (.int m), .va (.tup (ps.map prD)), .ow true (.lst (((rg t).map fun x => [x]).map tupD)), .un, .un])
      ⟨.un, .un, (rg t).map fun x => [x], .inl rfl, .inl rfl, rfl, by rw [List.length_map, rg_len]; omega, rfl⟩ (fun i d sl hd ⟨w1, w2, c, hw1, hw2, hc, hcl, es⟩ => by
        obtain ⟨q, hq, rfl⟩ := get_map_pr hd
        subst es
        obtain ⟨q0, q1⟩ := h.rng q (List.mem_of_getElem? hq)
        refine ⟨[.va P, .va (.str "escapes"), .va (.int t), .va (.int e), .va (.int m), .va (.tup (ps.map prD)), .ow true (.lst ((c.set q.1.toNat [m, q.2]).map tupD)), .va (.int q.1), .va (.int q.2)], ?_, _, _, c.set q.1.toNat [m, q.2], .inr ⟨_, rfl⟩, .inr ⟨_, rfl⟩, by rw [take_succ hq, List.foldl_append, ← hc]; rfl, by rw [List.length_set]; exact hcl, rfl⟩
        have ix : ixN c.length q.1 = some q.1.toNat := ixN_int q0 (by omega)
        rcases hw1 with rfl | ⟨d', rfl⟩ <;> rcases hw2 with rfl | ⟨d'', rfl⟩ <;> simp [ix, sizeLine_eq, List.map_set] <;> rfl)
    rw [List.length_map, List.take_length] at hc
    exact ⟨w1, w2, by rw [e', es, hc]; rfl⟩
  rw [evF]
  generalize ((rg t).map fun x => [x]).map tupD = I0 at e1 e2
  generalize hP : (Bs.esc t e m ps).d = P at e1 e2 ⊢
  have hP' : P = .tup [.str "escapes", .int t, .int e, .int m, .tup (ps.map prD)] := hP.symm
  subst hP'
  simp [H.h20, d_20, b_20, List.findIdx?, List.findIdx?.go, e1, e2]
theorem at_tup {t x : Int} {cs : List (List Int)} (hl : (cs.length : Int) = t) (h0 : 0 ≤ x) (h1 : x < t) : atI (cs.map tupD) x = some (tupD (cs.getD x.toNat [])) := by
  obtain ⟨i, rfl⟩ : ∃ i : Nat, x = i := ⟨x.toNat, by omega⟩
  have hi : i < cs.length := by omega
  rw [Pf.atI_nat, List.getElem?_map, Int.toNat_natCast, List.getD_eq_getElem?_getD, List.getElem?_eq_getElem hi]
  rfl
theorem init_codes (n : Nat) (w : Str) (t e l : Int) (h16 : t ≤ 16) {s : List Int} (hs : s.Perm (rg t)) (ht : 0 ≤ t) {cs : List (List Int)} (hl : (cs.length : Int) = t) (d1 d2 : D) (w3 w5 : Sl) (h5 : w5 = .va (.tup (cs.map tupD)) ∨ w5 = .ow true (.lst (cs.map tupD))) (F0 : List (Nat × F)) (hF : F0.lookup 4 = some (.fz (.lst (s.map .int)))) :
    evE T (evF T pr W n) c_21_0 [.ow false (.obj 0 F0), .va d1, .va d2, w3, .un, w5] = .ok (.fr (.lst ((s.map fun x => cs.getD x.toNat []).map tupD)), [.ow false (.obj 0 F0), .va d1, .va d2, w3, .un, w5]) := by
  have e3 : evE T (evF T pr W n) c_21_0 [.ow false (.obj 0 F0), .va d1, .va d2, w3, .un, w5] = .ok (.fr (.lst (s.filterMap fun x => some (tupD (cs.getD x.toNat [])))), [.ow false (.obj 0 F0), .va d1, .va d2, w3, .un, w5]) := by
    have hz := perm_len hs ht
    refine evE_lc_pure (fun c : Int => D.int c) _ s ?_ ?_ ?_ fun c hc => ⟨[.ow false (.obj 0 F0), .va d1, .va d2, w3, .va (.int c), w5], ?_⟩
    · simp [hF]
    · simp
    · rw [sizeLine_eq]; omega
    · obtain ⟨c0, c1⟩ := (perm_mem hs).mp hc
      have z := at_tup hl c0 c1
      generalize cs.getD c.toNat [] = cc at z ⊢
      rcases h5 with rfl | rfl <;> simp [lcW, z]
  rw [fm_some] at e3
  rw [e3, List.map_map]
  rfl
end Wm

/-! Q5: Plan(way), framed, body_of -/
namespace Wm
open PySem L2 Pf Pd
variable {T : Tab} {pr : Nat → CF} {W : Nat}
theorem ev_init (hW : 2000 ≤ W) (H : Hw T pr) (n : Nat) {gs : List (List Int)} {b : Bs} (h : WyOk gs b) : evF T pr W (n + 6) 21 [.ow false (.obj 0 []), .va (wayD gs b)] = .ok (.va .non, some (.obj 0 (pOF (planOf gs b)))) := by
  have hg := h.gl
  have t3 := h.t3
  have t16 := h.t16
  have e1 := ev_core hW H (n + 4) gs (by omega) b
  have e3 := ev_need hW H n h
  have h5 : -4611686018427387904 ≤ b.t := by omega
  have h6 : b.t ≤ 16777216 := by omega
  have rr : rangeD 0 b.t = (rg b.t).map .int := rangeD_rg b.t
  have sp := sgn_perm (by omega) h.gp
  have fl4 : ∀ P : D, P.sc = none → True := fun _ _ => trivial
  cases b with
  | codes t e cs =>
    have h7 : CsOk t e cs := h.ok
    simp only [Bs.t] at t3 t16 h5 h6 rr sp
    obtain ⟨w1, e4⟩ := init_loop H hW (n + 4) "codes" t e 0 t3 t16 (gs := gs) (by omega) h.gp (.codes t e cs)
    have e5 : ∀ l d1 w3, evE T (evF T pr W (n + 5)) c_21_0 [.ow false (.obj 0 [(0, .fz (.str "codes")), (1, .fz (.int t)), (2, .fz (.int e)), (3, .fz (.int 0)), (4, .fz (.lst ((sgn t gs).map .int))), (5, .fz (.lst l))]), .va d1, .va (Bs.codes t e cs).d, w3, .un, .va (.tup (cs.map tupD))] = _ := fun l d1 w3 => init_codes (T := T) (pr := pr) (W := W) (n + 5) "codes" t e 0 t16 sp (by omega) h7.len d1 (Bs.codes t e cs).d w3 _ (.inl rfl) _ rfl
    generalize wayD gs (Bs.codes t e cs) = wd at e1 e3 e4 ⊢
    generalize hb : (Bs.codes t e cs).d = bd at e1 e4 e5
    have hb' : bd = .tup [.str "codes", .int t, .int e, .tup (cs.map tupD)] := hb.symm
    subst hb'
    clear hb
    unfold pO at e4
    unfold pOF planOf
    generalize ((sgn t gs).map fun x => cs.getD x.toNat []).map tupD = C at e5 ⊢
    generalize (rg t).map D.int = R at e4 rr ⊢
    generalize (sgn t gs).map D.int = S at e4 e5
    generalize D.tup (cs.map tupD) = CS at e1 e4 e5
    rw [evF]
    simp [H.h21, d_21, b_21, List.findIdx?, List.findIdx?.go, ioOf, H.h11, d_11, H.h19, d_19, e1, e3, e4, e5, List.lookup, iw1, sizeLine_eq, h5, h6, rr, st4, Kd.str]
  | esc t e m ps =>
    have h7 : PrOk t e m ps := h.ok
    simp only [Bs.t] at t3 t16 h5 h6 rr sp
    obtain ⟨w1, e4⟩ := init_loop H hW (n + 4) "escapes" t e 0 t3 t16 (gs := gs) (by omega) h.gp (.esc t e m ps)
    have hcl : ((escC t m ps).length : Int) = t := by rw [escC_len]; omega
    have e6 := ev_escaped (W := W) H (n + 4) t3 t16 h7
    have e5 : ∀ l d1 w3, evE T (evF T pr W (n + 5)) c_21_0 [.ow false (.obj 0 [(0, .fz (.str "codes")), (1, .fz (.int t)), (2, .fz (.int e)), (3, .fz (.int 0)), (4, .fz (.lst ((sgn t gs).map .int))), (5, .fz (.lst l))]), .va d1, .va (Bs.esc t e m ps).d, w3, .un, .ow true (.lst ((escC t m ps).map tupD))] = _ := fun l d1 w3 => init_codes (T := T) (pr := pr) (W := W) (n + 5) "escapes" t e 0 t16 sp (by omega) hcl d1 (Bs.esc t e m ps).d w3 _ (.inr rfl) _ rfl
    generalize wayD gs (Bs.esc t e m ps) = wd at e1 e3 e4 ⊢
    generalize hb : (Bs.esc t e m ps).d = bd at e1 e4 e5 e6
    have hb' : bd = .tup [.str "escapes", .int t, .int e, .int m, .tup (ps.map prD)] := hb.symm
    subst hb'
    clear hb
    unfold pO at e4
    unfold pOF planOf
    generalize ((sgn t gs).map fun x => (escC t m ps).getD x.toNat []).map tupD = C at e5 ⊢
    generalize (escC t m ps).map tupD = CS at e5 e6
    generalize (rg t).map D.int = R at e4 rr ⊢
    generalize (sgn t gs).map D.int = S at e4 e5
    generalize D.tup (ps.map prD) = PS at e1 e4 e5 e6
    rw [evF]
    by_cases hfl : (scs CS).isSome = true <;> simp [hfl, H.h21, d_21, b_21, List.findIdx?, List.findIdx?.go, ioOf, H.h11, d_11, H.h19, d_19, H.h20, d_20, e1, e3, e4, e5, e6, List.lookup, iw2, sizeLine_eq, h5, h6, rr, wc1, wc5, Kd.str]
  | cnt t e l =>
    simp only [Bs.t] at t3 t16 h5 h6 rr sp
    obtain ⟨w1, e4⟩ := init_loop H hW (n + 4) "counts" t e l t3 t16 (gs := gs) (by omega) h.gp (.cnt t e l)
    generalize wayD gs (Bs.cnt t e l) = wd at e1 e3 e4 ⊢
    generalize hb : (Bs.cnt t e l).d = bd at e1 e4
    have hb' : bd = .tup [.str "counts", .int t, .int e, .int l] := hb.symm
    subst hb'
    clear hb
    unfold pO at e4
    unfold pOF planOf
    generalize (rg t).map D.int = R at e4 rr
    generalize (sgn t gs).map D.int = S at e4 ⊢
    rw [evF]
    simp [H.h21, d_21, b_21, List.findIdx?, List.findIdx?.go, ioOf, H.h11, d_11, H.h19, d_19, e1, e3, e4, List.lookup, iw3, sizeLine_eq, h5, h6, rr, Kd.str]
  | rnk t e =>
    simp only [Bs.t] at t3 t16 h5 h6 rr sp
    obtain ⟨w1, e4⟩ := init_loop H hW (n + 4) "ranks" t e 0 t3 t16 (gs := gs) (by omega) h.gp (.rnk t e)
    generalize wayD gs (Bs.rnk t e) = wd at e1 e3 e4 ⊢
    generalize hb : (Bs.rnk t e).d = bd at e1 e4
    have hb' : bd = .tup [.str "ranks", .int t, .int e] := hb.symm
    subst hb'
    clear hb
    unfold pO at e4
    unfold pOF planOf
    generalize (rg t).map D.int = R at e4 rr
    generalize (sgn t gs).map D.int = S at e4 ⊢
    rw [evF]
    simp [H.h21, d_21, b_21, List.findIdx?, List.findIdx?.go, ioOf, H.h11, d_11, H.h19, d_19, e1, e3, e4, List.lookup, iw4, sizeLine_eq, h5, h6, rr, Kd.str, st3]
end Wm

/-! Q5b: the plan of a good way is good; framed, body_of -/
namespace Wm
open PySem L2 Pf Pd
variable {T : Tab} {pr : Nat → CF} {W : Nat}
theorem fold_set (m : Int) : ∀ (ps : List (Int × Int)) (cs : List (List Int)) (x : Nat), x < cs.length → (∀ q ∈ ps, 0 ≤ q.1) →
    (∃ q ∈ ps, q.1 = (x : Int) ∧ (ps.foldl (fun cs q => cs.set q.1.toNat [m, q.2]) cs)[x]? = some [m, q.2]) ∨ ((∀ q ∈ ps, q.1 ≠ (x : Int)) ∧ (ps.foldl (fun cs q => cs.set q.1.toNat [m, q.2]) cs)[x]? = cs[x]?)
  | [], cs, x, _, _ => .inr ⟨fun _ h => absurd h List.not_mem_nil, rfl⟩
  | q :: ps, cs, x, hx, h0 => by
    rw [List.foldl_cons]
    rcases fold_set m ps (cs.set q.1.toNat [m, q.2]) x (by rw [List.length_set]; exact hx) (fun r hr => h0 r (List.mem_cons_of_mem _ hr)) with ⟨r, hr, e1, e2⟩ | ⟨h1, h2⟩
    · exact .inl ⟨r, List.mem_cons_of_mem _ hr, e1, e2⟩
    · have q0 := h0 q List.mem_cons_self
      by_cases c : q.1 = (x : Int)
      · refine .inl ⟨q, List.mem_cons_self, c, ?_⟩
        rw [h2, c, Int.toNat_natCast, List.getElem?_set_self hx]
      · refine .inr ⟨fun r hr => ?_, ?_⟩
        · rcases List.mem_cons.mp hr with z | z
          · rw [z]; exact c
          · exact h1 r z
        · rw [h2, List.getElem?_set_ne (by omega)]
theorem nd_inj {α : Type} {f : α → Int} : ∀ {l : List α}, (l.map f).Nodup → ∀ a ∈ l, ∀ b ∈ l, f a = f b → a = b
  | [], _, a, ha, _, _, _ => absurd ha List.not_mem_nil
  | x :: l, h, a, ha, b, hb, e => by
    rw [List.map_cons, List.nodup_cons] at h
    rcases List.mem_cons.mp ha with z | z <;> rcases List.mem_cons.mp hb with y | y
    · rw [z, y]
    · subst z; exact absurd (e ▸ List.mem_map_of_mem y) h.1
    · subst y; exact absurd (e.symm ▸ List.mem_map_of_mem z) h.1
    · exact nd_inj h.2 a z b y e
theorem esc_at {t e m : Int} {ps : List (Int × Int)} (h : PrOk t e m ps) {i : Nat} {a : List Int} (ha : (escC t m ps)[i]? = some a) : (i : Int) < t ∧ ((∃ q ∈ ps, q.1 = (i : Int) ∧ a = [m, q.2]) ∨ ((∀ q ∈ ps, q.1 ≠ (i : Int)) ∧ a = [(i : Int)])) := by
  have hi : i < t.toNat := by rw [← escC_len t m ps]; exact (List.getElem?_eq_some_iff.mp ha).1
  refine ⟨by omega, ?_⟩
  unfold escC at ha
  rcases fold_set m ps ((rg t).map fun x => [x]) i (by rw [List.length_map, rg_len]; exact hi) (fun q hq => (h.rng q hq).1) with ⟨q, hq, e1, e2⟩ | ⟨h1, h2⟩
  · rw [e2] at ha
    exact .inl ⟨q, hq, e1, (Option.some.inj ha).symm⟩
  · rw [h2, List.getElem?_map, rg_get (by omega)] at ha
    exact .inr ⟨h1, (Option.some.inj ha).symm⟩
theorem esc_ok {t e m : Int} (ht : 0 ≤ t) {ps : List (Int × Int)} (h : PrOk t e m ps) : CsOk t e (escC t m ps) := by
  have hm := h.mp
  refine ⟨by rw [escC_len]; omega, fun c hc => ?_, fun i j a b ha hb hp => ?_⟩
  · obtain ⟨i, hi⟩ := List.mem_iff_getElem?.mp hc
    obtain ⟨it, ⟨q, hq, e1, rfl⟩ | ⟨h1, rfl⟩⟩ := esc_at h hi
    · refine ⟨by simp, by simp, fun x hx => ?_⟩
      have := h.pl q hq
      rcases List.mem_cons.mp hx with z | z
      · rw [z]; exact hm
      · rw [List.mem_singleton.mp z]; exact this
    · refine ⟨by simp, by simp, fun x hx => ?_⟩
      rw [List.mem_singleton.mp hx]
      refine ⟨by omega, it, fun z => ?_⟩
      obtain ⟨q, hq, e1⟩ := List.mem_map.mp h.me
      exact h1 q hq (e1.trans z.symm)
  · obtain ⟨_, ⟨q, hq, e1, rfl⟩ | ⟨h1, rfl⟩⟩ := esc_at h ha <;> obtain ⟨_, ⟨r, hr, e2, rfl⟩ | ⟨h2, rfl⟩⟩ := esc_at h hb
    · obtain ⟨s, hs⟩ := hp
      simp at hs
      have := nd_inj h.nd q hq r hr hs.1
      rw [this] at e1
      omega
    · obtain ⟨s, hs⟩ := hp
      simp at hs
    · obtain ⟨s, hs⟩ := hp
      simp at hs
      obtain ⟨q, hq, e3⟩ := List.mem_map.mp h.mm
      exact absurd (e3.trans hs.1.symm) (h1 q hq)
    · obtain ⟨s, hs⟩ := hp
      simp at hs
      omega
theorem codes_ok {t e : Int} (h3 : 3 ≤ t) (h16 : t ≤ 16) (h0 : 0 ≤ e) (h1 : e < t) {cs : List (List Int)} (h : CsOk t e cs) {s : List Int} (hs : s.Perm (rg t)) : PlOk ⟨.codes, t, e, 0, rg t, s.map fun x => cs.getD x.toNat []⟩ := by
  have hl := h.len
  have sl := perm_len hs (by omega)
  have key : ∀ (i : Nat) (a : List Int), (s.map fun x => cs.getD x.toNat [])[i]? = some a → ∃ x, s[i]? = some x ∧ cs[x.toNat]? = some a ∧ 0 ≤ x ∧ x < t := fun i a ha => by
    rw [List.getElem?_map] at ha
    cases q : s[i]? with
    | none => rw [q] at ha; cases ha
    | some x =>
      rw [q] at ha
      obtain ⟨x0, x1⟩ := (perm_mem hs).mp (List.mem_of_getElem? q)
      refine ⟨x, rfl, ?_, x0, x1⟩
      have ha : cs.getD x.toNat [] = a := Option.some.inj ha
      rw [List.getD_eq_getElem?_getD, List.getElem?_eq_getElem (by omega)] at ha
      rw [List.getElem?_eq_getElem (by omega)]
      exact congrArg some ha
  refine { t3 := h3, t16 := h16, e0 := h0, e1 := h1, sp := List.Perm.refl _, kc := fun _ => ⟨rfl, by rw [List.length_map]; exact sl, fun c hc => ?_⟩, pf := fun _ i j a b ha hb hp => ?_, kn := (fun z => nomatch z) }
  · obtain ⟨i, hi⟩ := List.mem_iff_getElem?.mp hc
    obtain ⟨x, _, e2, _⟩ := key i c hi
    exact h.ok c (List.mem_of_getElem? e2)
  · obtain ⟨x, g1, e1, x0, _⟩ := key i a ha
    obtain ⟨y, g2, e2, y0, _⟩ := key j b hb
    have := h.pf _ _ a b e1 e2 hp
    have exy : x = y := by omega
    rw [← exy] at g2
    obtain ⟨hi, r1⟩ := List.getElem?_eq_some_iff.mp g1
    obtain ⟨hj, r2⟩ := List.getElem?_eq_some_iff.mp g2
    exact (List.getElem_inj (perm_nodup hs)).mp (r1.trans r2.symm)
theorem plan_te (gs : List (List Int)) (b : Bs) : (planOf gs b).t = b.t ∧ (planOf gs b).e = b.e := by cases b <;> exact ⟨rfl, rfl⟩
theorem plan_ok {gs : List (List Int)} {b : Bs} (h : WyOk gs b) : PlOk (planOf gs b) := by
  have sp := sgn_perm (show 0 ≤ b.t by have := h.t3; omega) h.gp
  obtain ⟨t3, t16, e0, e1, ok, _, _⟩ := h
  cases b with
  | codes t e cs => exact codes_ok t3 t16 e0 e1 ok sp
  | esc t e m ps => exact codes_ok t3 t16 e0 e1 (esc_ok (by simp only [Bs.t] at t3; omega) ok) sp
  | cnt t e l => exact { t3 := t3, t16 := t16, e0 := e0, e1 := e1, sp := sp, kc := (fun z => nomatch z), pf := (fun z => nomatch z), kn := fun _ => ok }
  | rnk t e => exact { t3 := t3, t16 := t16, e0 := e0, e1 := e1, sp := sp, kc := (fun z => nomatch z), pf := (fun z => nomatch z), kn := (fun z => nomatch z) }
/-! ### frames -/
theorem pF_def (p : Pl) : pF p = [(0, .str p.k.str), (1, .int p.t), (2, .int p.e), (3, .int p.l), (4, .lst (p.s.map .int)), (5, .lst (p.c.map tupD))] := rfl
theorem plan_vd {p : Pl} {f : List Int} (h : Pn p f) : Vd p.t f := fun x hx => (h x hx).1
end Wm

/-! L1a: the laws' draws -/
namespace Wm
open PySem L2 Pf Pd
variable {T : Tab} {pr : Nat → CF} {W : Nat}
structure Dc where
  x : Int
  y : Int
  r : List Int
def Dc.l (s : Dc) : List D := .int s.x :: .int s.y :: s.r.map .int
def offA (s : Dc) : Dc := if s.y = 0 then (match s.r with
  | c :: cs => ⟨s.x, c, cs⟩
  | [] => s) else s
def offP (s : Dc) (m : Int) : Int × Dc :=
  let t := offA s
  if t.y > 0 then (t.y % m, ⟨t.x, t.y / m, t.r⟩) else let x := (t.x * 48271 + 11) % 2147483647; (x / 64 % m, ⟨x, t.y, t.r⟩)
theorem ev_off (H : T 51 = some d_51) (n : Nat) (s : Dc) (m : Int) (h0 : 0 < m) (h1 : m < 1073741824) : evF T pr W (n + 1) 51 [.ow false (.lst s.l), .va (.int m)] = .ok (.va (.int (offP s m).1), some (.lst (offP s m).2.l)) := by
  obtain ⟨x, y, r⟩ := s
  by_cases hy : y = 0
  · subst hy
    cases r with
    | nil =>
      simp [evF, H, d_51, b_51, Dc.l, List.findIdx?, List.findIdx?.go, bin_mulR, h0, h1, offP, offA]
    | cons c cs => 
      have h2 : (2 : Int) < (cs.length : Int) + 1 + 1 + 1 := by omega
      by_cases hc : 0 < c <;>
        simp [evF, H, d_51, b_51, Dc.l, List.findIdx?, List.findIdx?.go, bin_mulR, h0, h1, offP, offA, hc, h2]
  · by_cases hc : 0 < y <;>
      simp [evF, H, d_51, b_51, Dc.l, List.findIdx?, List.findIdx?.go, bin_mulR, h0, h1, offP, offA, hc, hy]
theorem flat_l (s : Dc) : (scs s.l).isSome = true := by simp [Dc.l]
theorem offP_range (s : Dc) (m : Int) (h : 0 < m) : 0 ≤ (offP s m).1 ∧ (offP s m).1 < m := by
  unfold offP
  dsimp only
  split
  · exact ⟨Int.emod_nonneg _ (by omega), Int.emod_lt_of_pos _ h⟩
  · exact ⟨Int.emod_nonneg _ (by omega), Int.emod_lt_of_pos _ h⟩
theorem ev_size (H : Hk T pr) (n : Nat) (s : Dc) : ∃ t : Int, 3 ≤ t ∧ t ≤ 16 ∧ evF T pr W (n + 2) 62 [.ow false (.lst s.l)] = .ok (.va (.int t), some (.lst (offP s 8).2.l)) := by
  have hk := offP_range s 8 (by decide)
  have e := ev_off (pr := pr) (W := W) H.h51 n s 8 (by decide) (by decide)
  have e3 : atI s.l 0 = some (.int s.x) := atI_0 _ _
  have fin : ∀ t : Int, 3 ≤ t → t ≤ 16 → atI ([.int 3, .int 3, .int 4, .int 4, .int 5, .int (3 + s.x / 7 % 14), .int 8, .int 16] : List D) (offP s 8).1 = some (.int t) → ∃ t : Int, 3 ≤ t ∧ t ≤ 16 ∧ evF T pr W (n + 2) 62 [.ow false (.lst s.l)] = .ok (.va (.int t), some (.lst (offP s 8).2.l)) := fun t h1 h2 h3 => by
    refine ⟨t, h1, h2, ?_⟩
    rw [evF]
    simp [H.h62, d_62, b_62, List.findIdx?, List.findIdx?.go, ioOf, H.h51, d_51, e, e3, h3, sizeLine_eq, flat_l]
  have hz : (offP s 8).1 = 0 ∨ (offP s 8).1 = 1 ∨ (offP s 8).1 = 2 ∨ (offP s 8).1 = 3 ∨ (offP s 8).1 = 4 ∨ (offP s 8).1 = 5 ∨ (offP s 8).1 = 6 ∨ (offP s 8).1 = 7 := by omega
  rcases hz with z | z | z | z | z | z | z | z <;> rw [z] at fin
  · exact fin 3 (by omega) (by omega) rfl
  · exact fin 3 (by omega) (by omega) rfl
  · exact fin 4 (by omega) (by omega) rfl
  · exact fin 4 (by omega) (by omega) rfl
  · exact fin 5 (by omega) (by omega) rfl
  · exact fin (3 + s.x / 7 % 14) (by omega) (by omega) rfl
  · exact fin 8 (by omega) (by omega) rfl
  · exact fin 16 (by omega) (by omega) rfl
abbrev absI (c : Int) : Int := if c < 0 then -c else c
theorem ev_dice (H : Hk T pr) (n : Nat) (ns : List Int) (hl : ns.length ≤ 63) (k : Int) : ∃ s : Dc, evF T pr W (n + 1) 50 [.va (.scr ns), .va (.int k)] = .ok (.fr (.lst s.l), none) := by
  obtain ⟨a, w, hw, e1⟩ : ∃ (a : Int) (w : Sl), Fr w ∧ evS T (evF T pr W n) W w_50_0 [.va (.scr ns), .va (.int k), .va (.int k), .un] = .ok (.nx, [.va (.scr ns), .va (.int k), .va (.int a), w]) := by
    unfold w_50_0
    simp only [evS, evI, evE, List.getElem?_cons_zero, Rs.bind_ok, Pf.settle, Rs.of_some]
    obtain ⟨sl', e, a, w, hw, es⟩ := forLoop_inv (ns.map .int) (body := fun d sl => (giveT (.one 3) d sl).bind fun sl => evSs T (evF T pr W n) W (.cons (.asg 2 (.bin .mod (.bin .add (.bin .mul (.var 2) (.cI 31)) (.bi .abs (.cons (.var 3) .nil))) (.cI 2147483647))) .nil) sl)
      (I := fun _ sl => ∃ (a : Int) (w : Sl), Fr w ∧ sl = [.va (.scr ns), .va (.int k), .va (.int a), w]) (sl := [.va (.scr ns), .va (.int k), .va (.int k), .un]) ⟨k, .un, .inl rfl, rfl⟩ (fun i d sl hd ⟨a, w, hw, es⟩ => by
        obtain ⟨c, _, rfl⟩ := get_map_int hd
        subst es
        refine ⟨[.va (.scr ns), .va (.int k), .va (.int ((a * 31 + absI c) % 2147483647)), .va (.int c)], ?_, _, _, .inr ⟨_, rfl⟩, rfl⟩
        rcases hw with rfl | ⟨d', rfl⟩ <;> simp [bin_mulR])
    exact ⟨a, w, hw, by rw [← es]; exact e⟩
  have e2 : evE T (evF T pr W n) c_50_0 [.va (.scr ns), .va (.int k), .va (.int a), w] = .ok (.fr (.lst (ns.filterMap fun c => if 1000000000000000000 ≤ c then some (.int c) else none)), [.va (.scr ns), .va (.int k), .va (.int a), w]) := by
    refine evE_lc_pure (fun c : Int => D.int c) _ ns ?_ ?_ ?_ fun c hc => ?_
    · simp
    · rcases hw with rfl | ⟨d', rfl⟩ <;> simp
    · rw [sizeLine_eq]; omega
    · have hp : binD .pow (.int 10) (.int 18) = .ok (.va (.int (10 ^ 18))) := rfl
      refine ⟨[.va (.scr ns), .va (.int k), .va (.int a), .va (.int c)], ?_⟩
      by_cases h : (1000000000000000000 : Int) ≤ c <;> rcases hw with rfl | ⟨d', rfl⟩ <;> simp [lcW, hp, h]
  have e3 : ∃ r : List Int, (ns.filterMap fun c => if (1000000000000000000 : Int) ≤ c then some (D.int c) else none) = r.map .int ∧ r.length ≤ ns.length := by
    refine ⟨ns.filterMap fun c => if (1000000000000000000 : Int) ≤ c then some c else none, ?_, List.length_filterMap_le _ _⟩
    rw [List.map_filterMap]
    congr 1
    funext c
    by_cases h : (1000000000000000000 : Int) ≤ c
    · rw [if_pos h, if_pos h]; rfl
    · rw [if_neg h, if_neg h]; rfl
  obtain ⟨r, e3, e4⟩ := e3
  rw [e3] at e2
  refine ⟨⟨a, 0, r⟩, ?_⟩
  have hz : r.length + 1 + 1 ≤ 16777216 := by omega
  have hz2 : 2 + r.length ≤ 16777216 := by omega
  rw [evF]
  simp [H.h50, d_50, b_50, List.findIdx?, List.findIdx?.go, e1, e2, sizeLine_eq, hz, hz2, Dc.l]
theorem ev_lplain (H : Hk T pr) (n : Nat) {t e : Int} (h : 0 ≤ e) (h1 : e < t) (h2 : t ≤ 16) : evF T pr W (n + 1) 54 [.va (.int t), .va (.int e)] = .ok (.fr (.lst ((plL t e).map .int)), none) := by
  have e2 : evE T (evF T pr W n) c_54_0 [.va (.int t), .va (.int e), .un] = .ok (.fr (.lst ((rg t).filterMap fun x => if x = e then none else some (.int x))), [.va (.int t), .va (.int e), .un]) := by
    refine evE_lc_pure (fun c : Int => D.int c) _ (rg t) ?_ ?_ ?_ fun c hc => ⟨[.va (.int t), .va (.int e), .va (.int c)], ?_⟩
    · simp [rangeD_rg, show t < 2 ^ 62 by omega, show -(2 ^ 62) ≤ t by omega]
      omega
    · simp
    · rw [sizeLine_eq, rg_len]; omega
    · by_cases q : c = e <;> simp [lcW, q]
  rw [fm_filter, filter_pl h h1] at e2
  rw [evF]
  simp [H.h54, d_54, b_54, List.findIdx?, List.findIdx?.go, e2]
/-- things that may be looked at as data -/
structure Gd {β : Type} (g : β → D) : Prop where
  pl : ∀ l : List β, D.pls (l.map g) = true
  dp : ∀ l : List β, PyData.depthAll (D.pys (l.map g)) ≤ 1
theorem gd_int : Gd D.int := ⟨pls_int, fun l => by simp⟩
theorem gd_tup : Gd tupD := ⟨pls_tup, fun l => by rw [pys_tup]; exact dep_tup l⟩
theorem eqD_g0 {β : Type} {g : β → D} (h : Gd g) (l : List β) : eqD (.lst (l.map g)) (.lst []) = .ok (decide (l = [])) := by
  have h1 := h.pl l
  have h2 := h.dp l
  simp only [eqD, D.pl, h1, dL, D.pls, D.pys, PyData.depth]
  rw [if_pos ⟨trivial, trivial, by omega⟩]
  cases l with
  | nil => simp [PyData.eqv, PyData.eqvAll, D.pys]
  | cons c cs => simp [PyData.eqv, PyData.eqvAll, D.pys]
theorem erase_map {α β : Type} (f : α → β) : ∀ (l : List α) (j : Nat), (l.map f).eraseIdx j = (l.eraseIdx j).map f
  | [], j => by simp
  | a :: l, 0 => by simp
  | a :: l, j + 1 => by simp [erase_map f l j]
theorem erase_perm {α : Type} : ∀ (l : List α) (j : Nat) (h : j < l.length), (l[j] :: l.eraseIdx j).Perm l
  | a :: l, 0, _ => by simp
  | a :: l, j + 1, h => by
    have ih := erase_perm l j (by simpa using h)
    simp only [List.getElem_cons_succ, List.eraseIdx_cons_succ]
    exact (List.Perm.swap _ _ _).trans (ih.cons a)
theorem ev_mixed (hW : 2000 ≤ W) (H : Hk T pr) (n : Nat) {β : Type} {g : β → D} (hg : Gd g) (s : Dc) (l : List β) (hl : l.length ≤ 1000) :
    ∃ (l' : List β) (s' : Dc), l'.Perm l ∧ evF T pr W (n + 2) 53 [.ow false (.lst s.l), .va (.lst (l.map g))] = .ok (.fr (.lst (l'.map g)), some (.lst s'.l)) := by
  generalize hP : D.lst (l.map g) = P
  obtain ⟨l', s', hp, e1⟩ : ∃ (l' : List β) (s' : Dc), l'.Perm l ∧ evS T (evF T pr W (n + 1)) W w_53_0 [.ow false (.lst s.l), .va P, .ow true (.lst (l.map g)), .ow true (.lst [])] = .ok (.nx, [.ow false (.lst s'.l), .va P, .ow true (.lst []), .ow true (.lst (l'.map g))]) := by
    unfold w_53_0
    rw [evS]
    obtain ⟨sl', e, l', s', hp, es⟩ := whlLoop_inv (test := fun sl => evT T (evF T pr W (n + 1)) (.cmp .ne (.var 2) (.lst (.nil))) sl) (body := fun sl => evSs T (evF T pr W (n + 1)) W (.cons (.ex (.bm .append (.var 3) (.cons (.bm .pop1 (.var 2) (.cons (.call 51 (.cons (.var 0) (.cons (.bi .len (.cons (.var 2) .nil)) .nil))) .nil)) .nil))) .nil) sl)
      (I := fun sl => ∃ (a b : List β) (s : Dc), (b ++ a).Perm l ∧ sl = [.ow false (.lst s.l), .va P, .ow true (.lst (a.map g)), .ow true (.lst (b.map g))])
      (μ := fun sl : Sls => match sl[2]? with | some (Sl.ow _ (OP.lst xs)) => xs.length | _ => 0)
      (Q := fun sl => ∃ (l' : List β) (s' : Dc), l'.Perm l ∧ sl = [.ow false (.lst s'.l), .va P, .ow true (.lst []), .ow true (.lst (l'.map g))]) (fun sl ⟨a, b, s, hp, es⟩ => by
        subst es
        have e0 := eqD_g0 hg a
        by_cases c : a = []
        · subst c
          refine .inl ⟨[.ow false (.lst s.l), .va P, .ow true (.lst []), .ow true (.lst (b.map g))], ?_, b, s, by simpa using hp, rfl⟩
          simp only [List.map_nil] at e0
          simp [sizeLine_eq]
        · rw [decide_eq_false c] at e0
          have hpos : 0 < a.length := List.length_pos_iff.mpr c
          have hlen : b.length + a.length ≤ 1000 := by rw [← List.length_append, hp.length_eq]; exact hl
          have eo := ev_off (pr := pr) (W := W) H.h51 n s a.length (by omega) (by omega)
          obtain ⟨r0, r1⟩ := offP_range s a.length (by omega)
          generalize (offP s a.length).1 = k at eo r0 r1
          generalize (offP s a.length).2 = s2 at eo
          have hk : k.toNat < a.length := by omega
          have hk2 : k < 9223372036854775808 := by omega
          have e1 : bmD .pop1 (a.map g) [.int k] = .ok (g a[k.toNat], (a.eraseIdx k.toNat).map g) := by
            show (if _ then _ else _ : Rs (D × List D)) = _
            rw [if_pos ⟨r0, by simpa using r1, hk2⟩, List.getElem?_map, List.getElem?_eq_getElem hk]
            show Rs.ok (_, (a.map g).eraseIdx k.toNat) = _
            congr 2
            rw [erase_map]
          refine .inr ⟨[.ow false (.lst s.l), .va P, .ow true (.lst (a.map g)), .ow true (.lst (b.map g))], [.ow false (.lst s2.l), .va P, .ow true (.lst ((a.eraseIdx k.toNat).map g)), .ow true (.lst ((b ++ [a[k.toNat]]).map g))], ?_, ?_, ⟨a.eraseIdx k.toNat, b ++ [a[k.toNat]], s2, ?_, rfl⟩, ?_⟩
          · simp [sizeLine_eq, e0]
          · have hz : b.length < 16777216 := by omega
            simp [ioOf, H.h51, d_51, List.findIdx?, List.findIdx?.go, eo, e1, flat_l, sizeLine_eq, hz]
          · have pe : (a[k.toNat] :: a.eraseIdx k.toNat).Perm a := erase_perm a k.toNat hk
            have := (List.Perm.append_left b pe).trans hp
            simpa using this
          · simp [List.length_eraseIdx, hk]; omega) W [.ow false (.lst s.l), .va P, .ow true (.lst (l.map g)), .ow true (.lst [])] ⟨l, [], s, List.Perm.refl _, rfl⟩ (by simp; omega)
    exact ⟨l', s', hp, by rw [← es]; exact e⟩
  refine ⟨l', s', hp, ?_⟩
  subst hP
  rw [evF]
  simp [H.h53, d_53, b_53, List.findIdx?, List.findIdx?.go, e1, sizeLine_eq]
end Wm

/-! L1b: drawn codes are good -/
namespace Wm
open PySem L2 Pf Pd
variable {T : Tab} {pr : Nat → CF} {W : Nat}
/-- leaves of a drawn tree -/
structure LvOk (t e : Int) (k : Nat) (l : List (List Int)) : Prop where
  ok : ∀ c ∈ l, 1 ≤ c.length ∧ c.length ≤ k ∧ ∀ x ∈ c, 0 ≤ x ∧ x < t ∧ x ≠ e
  pw : l.Pairwise fun a b => ¬ a <+: b ∧ ¬ b <+: a
theorem LvOk.perm {t e : Int} {k : Nat} {l l' : List (List Int)} (h : LvOk t e k l) (p : l'.Perm l) : LvOk t e k l' :=
  ⟨fun c hc => h.ok c (p.mem_iff.mp hc), (p.pairwise_iff (fun {a b} q => ⟨q.2, q.1⟩)).mpr h.pw⟩
theorem pre_snoc {a c : List Int} {x y : Int} (h : a ++ [x] <+: c ++ [y]) : a ++ [x] <+: c ∨ (a = c ∧ x = y) := by
  obtain ⟨s, hs⟩ := h
  rcases List.eq_nil_or_concat s with q | ⟨r, d, q⟩
  · subst q
    rw [List.append_nil] at hs
    have := List.append_inj' hs rfl
    exact .inr ⟨this.1, by simpa using this.2⟩
  · rw [List.concat_eq_append] at q
    subst q
    rw [← List.append_assoc] at hs
    have := List.append_inj' hs rfl
    exact .inl ⟨r, this.1⟩
theorem pre_of_snoc {a c : List Int} {x : Int} (h : a <+: c ++ [x]) : a <+: c ∨ a = c ++ [x] := by
  obtain ⟨s, hs⟩ := h
  rcases List.eq_nil_or_concat s with q | ⟨r, d, q⟩
  · subst q
    rw [List.append_nil] at hs
    exact .inr hs
  · rw [List.concat_eq_append] at q
    subst q
    rw [← List.append_assoc] at hs
    have := List.append_inj' hs rfl
    exact .inl ⟨r, this.1⟩
/-- a leaf is split -/
theorem LvOk.split {t e : Int} {k : Nat} {l : List (List Int)} (h3 : 0 ≤ e) (h4 : e < t) (h : LvOk t e k l) {c : List Int} {j : Nat} (hj : l[j]? = some c) (hk : c.length < k + 1) : LvOk t e (k + 1) (l.eraseIdx j ++ (plL t e).map fun x => c ++ [x]) := by
  obtain ⟨hjl, hc⟩ := List.getElem?_eq_some_iff.mp hj
  have pe := erase_perm l j hjl
  have h' := h.perm pe
  rw [hc] at h'
  obtain ⟨p1, p2⟩ := List.pairwise_cons.mp h'.pw
  obtain ⟨c1, c2, c3⟩ := h'.ok c List.mem_cons_self
  refine ⟨fun d hd => ?_, ?_⟩
  · rcases List.mem_append.mp hd with q | q
    · obtain ⟨a, b, d⟩ := h'.ok d (List.mem_cons_of_mem _ q)
      exact ⟨a, by omega, d⟩
    · obtain ⟨x, hx, rfl⟩ := List.mem_map.mp q
      refine ⟨by simp, by simp; omega, fun y hy => ?_⟩
      rcases List.mem_append.mp hy with z | z
      · exact c3 y z
      · rw [List.mem_singleton.mp z]
        unfold plL at hx
        obtain ⟨i, hi, rfl⟩ := List.mem_map.mp hx
        obtain ⟨i0, i1⟩ := mem_rg.mp hi
        exact sg_range h3 h4 i0 i1
  · rw [List.pairwise_append]
    refine ⟨p2, ?_, fun a ha b hb => ?_⟩
    · rw [List.pairwise_map]
      refine List.Pairwise.imp (fun {x y} hne => ?_) (List.nodup_iff_pairwise_ne.mp (pl_nodup t e))
      constructor
      · intro q
        rcases pre_snoc q with z | z
        · have := z.length_le; simp at this; omega
        · exact hne z.2
      · intro q
        rcases pre_snoc q with z | z
        · have := z.length_le; simp at this; omega
        · exact hne z.2.symm
    · obtain ⟨x, hx, rfl⟩ := List.mem_map.mp hb
      obtain ⟨q1, q2⟩ := p1 a ha
      constructor
      · intro q
        rcases pre_of_snoc q with z | z
        · exact q2 z
        · rw [z] at q1
          exact q1 (List.prefix_append _ _)
      · intro q
        exact q1 ((List.prefix_append c [x]).trans q)
theorem pl_len {t e : Int} : (plL t e).length = (t - 1).toNat := by unfold plL; rw [List.length_map, rg_len]
theorem lv_first {t e : Int} (h3 : 0 ≤ e) (h4 : e < t) : LvOk t e 1 ((plL t e).map fun x => [x]) := by
  refine ⟨fun c hc => ?_, ?_⟩
  · obtain ⟨x, hx, rfl⟩ := List.mem_map.mp hc
    refine ⟨by simp, by simp, fun y hy => ?_⟩
    rw [List.mem_singleton.mp hy]
    unfold plL at hx
    obtain ⟨i, hi, rfl⟩ := List.mem_map.mp hx
    obtain ⟨i0, i1⟩ := mem_rg.mp hi
    exact sg_range h3 h4 i0 i1
  · rw [List.pairwise_map]
    refine List.Pairwise.imp (fun {x y} hne => ?_) (List.nodup_iff_pairwise_ne.mp (pl_nodup t e))
    constructor
    · rintro ⟨s, hs⟩; simp at hs; exact hne hs.1
    · rintro ⟨s, hs⟩; simp at hs; exact hne hs.1.symm
theorem lv_codes {t e : Int} {k : Nat} {l : List (List Int)} (hk : k ≤ 4) (h : LvOk t e k l) (hl : t ≤ l.length) (ht : 0 ≤ t) : CsOk t e (l.take t.toNat) := by
  refine ⟨by rw [List.length_take]; omega, fun c hc => ?_, fun i j a b ha hb hp => ?_⟩
  · obtain ⟨a, b, c⟩ := h.ok c (List.mem_of_mem_take hc)
    exact ⟨a, by omega, c⟩
  · have pw : (l.take t.toNat).Pairwise fun a b => ¬ a <+: b ∧ ¬ b <+: a := h.pw.sublist (List.take_sublist _ _)
    obtain ⟨hi, ea⟩ := List.getElem?_eq_some_iff.mp ha
    obtain ⟨hj, eb⟩ := List.getElem?_eq_some_iff.mp hb
    rcases Nat.lt_trichotomy i j with q | q | q
    · have := (List.pairwise_iff_getElem.mp pw i j hi hj q).1
      rw [ea, eb] at this
      exact absurd hp this
    · exact q
    · have := (List.pairwise_iff_getElem.mp pw j i hj hi q).2
      rw [ea, eb] at this
      exact absurd hp this
theorem remove_tup {l : List (List Int)} {c : List Int} (h : c ∈ l) : bmD .remove (l.map tupD) [tupD c] = .ok (.non, (l.eraseIdx (l.idxOf c)).map tupD) := by
  show (if _ then _ else _ : Rs (D × List D)) = _
  rw [if_pos ⟨by simp [D.pl], pls_tup l, by simp [PyData.depth]⟩, pys_tup, dT, pys_int]
  have e : PySem.SeqAt.dataPlace (l.map fun c => PyData.tuple (c.map .int)) (.tuple (c.map .int)) = some (l.idxOf c) := by
    unfold PySem.SeqAt.dataPlace
    rw [List.findIdx?_eq_some_iff_getElem]
    have hi := List.idxOf_lt_length_of_mem h
    refine ⟨by simpa using hi, ?_, fun j hj => ?_⟩
    · rw [List.getElem_map, eqv_tup, List.getElem_idxOf hi]; simp
    · rw [List.getElem_map, eqv_tup]
      have := List.not_of_lt_findIdx (p := (· == c)) hj
      simpa using this
  rw [e, Rs.of_some, Rs.bind_ok, erase_map]
/-- a comprehension over an owned list that changes nothing -/
theorem evE_lcO_pure {T : Tab} {cf : CF} {own : List Nat} {tg : Tgt} {cond : POpt} {elt : PE} {β : Type} (g : β → D) (k : β → Option D) (xs : List β) {sl : Sls} {i : Nat} {b : Bool} (hi : sl[i]? = some (.ow b (.lst (xs.map g)))) (hio : i ∉ own) (hc : calmS (sl.set i .un) own = true) (hl : xs.length < sizeLine)
    (hs : ∀ x, x ∈ xs → ∃ sl'', lcW T cf own tg cond elt (g x) (wipeS (sl.set i .un) own) = .ok (k x, sl'') ∧ wipeS sl'' own = wipeS (sl.set i .un) own ∧ calmS sl'' own = true) :
    evE T cf (.lcO i own tg cond elt) sl = .ok (.fr (.lst (xs.filterMap k)), sl) := by
  have hil := (List.getElem?_eq_some_iff.mp hi).1
  rw [evE_lcO, hi]
  obtain ⟨sl', e, w, c⟩ := lcLoop_st (T := T) (cf := cf) (own := own) (tg := tg) (cond := cond) (elt := elt) (fun _ : Unit => sl.set i .un) g (fun _ x => (k x, ())) xs () (sl.set i .un) rfl hc fun _ x hx => hs x hx
  have hn : sl'[i]? = some .un := by
    have := congrArg (fun l : Sls => l[i]?) w
    simp only [wipeS_get, if_neg hio] at this
    rw [this, List.getElem?_set_self hil]
  dsimp only
  rw [if_pos ⟨hio, hc, by simpa using hl⟩, e, Rs.bind_ok, if_pos ⟨c, by rw [hn]⟩]
  have e1 : ∀ (xs : List β), (lcFold (fun (_ : Unit) x => (k x, ())) xs ()).1 = xs.filterMap k := by
    intro xs
    induction xs with
    | nil => rfl
    | cons x xs ih =>
      rw [List.filterMap_cons]
      show optL (k x) ++ (lcFold (fun (_ : Unit) x => (k x, ())) xs ()).1 = _
      rw [ih]
      cases k x <;> simp [optL]
  have e2 : backS (sl.set i .un) sl' own = sl.set i .un := by
    have hl : (sl.set i .un).length = sl'.length := by
      have := congrArg List.length w
      rw [wipeS_len, wipeS_len] at this
      exact this.symm
    apply List.ext_getElem?
    intro j
    rw [backS_get (sl.set i .un) sl' hl]
    by_cases m : j ∈ own
    · rw [if_pos m]
    · rw [if_neg m]
      have := congrArg (fun l : Sls => l[j]?) w
      simp only [wipeS_get, if_neg m] at this
      exact this
  have e3 : (sl.set i .un).set i (.ow b (.lst (xs.map g))) = sl := by
    rw [List.set_set]
    apply List.ext_getElem?
    intro j
    by_cases m : i = j
    · subst m; rw [List.getElem?_set_self hil, hi]
    · rw [List.getElem?_set_ne m]
  rw [e1, e2, e3]
/-- one turn of the tree -/
theorem ev_leaf (H : Hk T pr) (n : Nat) {t e : Int} (t3 : 3 ≤ t) (t16 : t ≤ 16) (h3 : 0 ≤ e) (h4 : e < t) (s : Dc) {k : Nat} (hk : k < 4) {l : List (List Int)} (h : LvOk t e k l) (hl0 : 0 < l.length) (hl : l.length ≤ 1000) (w6 w7 w8 : Sl) (hw7 : w7 = .un ∨ ∃ q, w7 = .ow true q) (hw8 : Fr w8) :
    ∃ (s' : Dc) (l' : List (List Int)) (w7' w8' : Sl), (w7' = .un ∨ ∃ q, w7' = .ow true q) ∧ Fr w8' ∧ LvOk t e (k + 1) l' ∧ l'.length + 1 = l.length + (t - 1).toNat ∧
    evSs T (evF T pr W (n + 1)) W (.cons (.asg 7 (c_55_1)) (.cons (.asg 8 (.ix (.var 7) (.call 51 (.cons (.var 0) (.cons (.bi .len (.cons (.var 7) .nil)) .nil))))) (.cons (.ex (.bm .remove (.var 4) (.cons (.var 8) .nil))) (.cons (.asg 4 (.bin .add (.var 4) (c_55_0))) .nil)))) [.ow false (.lst s.l), .va (.int t), .va (.int e), .va (.lst ((plL t e).map .int)), .ow true (.lst (l.map tupD)), .un, w6, w7, w8]
    = .ok (.nx, [.ow false (.lst s'.l), .va (.int t), .va (.int e), .va (.lst ((plL t e).map .int)), .ow true (.lst (l'.map tupD)), .un, w6, w7', w8']) := by
  have hlen : ∀ c ∈ l, c.length < 4 := fun c hc => by have := (h.ok c hc).2.1; omega
  generalize hPL : D.lst ((plL t e).map .int) = PL
  have e1 : evE T (evF T pr W (n + 1)) c_55_1 [.ow false (.lst s.l), .va (.int t), .va (.int e), .va PL, .ow true (.lst (l.map tupD)), .un, w6, w7, w8] = .ok (.fr (.lst (l.filterMap fun c => some (tupD c))), [.ow false (.lst s.l), .va (.int t), .va (.int e), .va PL, .ow true (.lst (l.map tupD)), .un, w6, w7, w8]) := by
    refine evE_lcO_pure (b := true) tupD _ l rfl (by decide) ?_ (by rw [sizeLine_eq]; omega) fun c hc => ⟨[.ow false (.lst s.l), .va (.int t), .va (.int e), .va PL, .un, .un, w6, w7, .va (tupD c)], ?_⟩
    · rcases hw8 with rfl | ⟨d', rfl⟩ <;> simp
    · have := hlen c hc
      have h4 : (c.length : Int) < 4 := by omega
      rcases hw8 with rfl | ⟨d', rfl⟩ <;> simp [lcW, h4]
  rw [fm_some] at e1
  have eo := ev_off (pr := pr) (W := W) H.h51 n s l.length (by omega) (by omega)
  obtain ⟨r0, r1⟩ := offP_range s l.length (by omega)
  generalize (offP s l.length).1 = j at eo r0 r1
  generalize (offP s l.length).2 = s2 at eo
  obtain ⟨j, rfl⟩ : ∃ i : Nat, j = i := ⟨j.toNat, by omega⟩
  have hj : j < l.length := by omega
  have g1 : atI (l.map tupD) (j : Int) = some (tupD l[j]) := by
    rw [Pf.atI_nat, List.getElem?_map, List.getElem?_eq_getElem hj]; rfl
  have gj : l[l.idxOf l[j]]? = some l[j] := by
    have hi := List.idxOf_lt_length_of_mem (List.getElem_mem hj)
    rw [List.getElem?_eq_getElem hi, List.getElem_idxOf hi]
  have er := remove_tup (List.getElem_mem hj)
  have hok := h.split h3 h4 gj (by have := (h.ok _ (List.getElem_mem hj)).2.1; omega)
  have hle : (l.eraseIdx (l.idxOf l[j])).length + 1 = l.length := by
    rw [List.length_eraseIdx, if_pos (List.idxOf_lt_length_of_mem (List.getElem_mem hj))]; omega
  have hcl := (h.ok _ (List.getElem_mem hj)).2.1
  generalize l.eraseIdx (l.idxOf l[j]) = le at er hok hle
  generalize l[j] = c at g1 er hok hcl
  have e2 : ∀ w7 : Sl, evE T (evF T pr W (n + 1)) c_55_0 [.ow false (.lst s2.l), .va (.int t), .va (.int e), .va PL, .ow true (.lst (le.map tupD)), .un, w6, w7, .va (tupD c)] = .ok (.fr (.lst ((plL t e).filterMap fun x => some (tupD (c ++ [x])))), [.ow false (.lst s2.l), .va (.int t), .va (.int e), .va PL, .ow true (.lst (le.map tupD)), .un, w6, w7, .va (tupD c)]) := fun w7 => by
    subst hPL
    refine evE_lc_pure (fun x : Int => D.int x) _ (plL t e) ?_ ?_ ?_ fun x hx => ⟨[.ow false (.lst s2.l), .va (.int t), .va (.int e), .va (.lst ((plL t e).map .int)), .ow true (.lst (le.map tupD)), .va (.int x), w6, w7, .va (tupD c)], ?_⟩
    · simp
    · simp
    · rw [sizeLine_eq, pl_len]; omega
    · have hz : c.length + 1 ≤ 16777216 := by omega
      simp [lcW, sizeLine_eq, hz]
  rw [fm_some] at e2
  have m1 : (plL t e).map (fun x => tupD (c ++ [x])) = ((plL t e).map fun x => c ++ [x]).map tupD := by rw [List.map_map]; rfl
  rw [m1] at e2
  have hnl : ((plL t e).map fun x => c ++ [x]).length = (t - 1).toNat := by rw [List.length_map, pl_len]
  generalize (plL t e).map (fun x => c ++ [x]) = nl at e2 hok hnl
  refine ⟨s2, le ++ nl, .ow true (.lst (l.map tupD)), .va (tupD c), .inr ⟨_, rfl⟩, .inr ⟨_, rfl⟩, hok, by rw [List.length_append]; omega, ?_⟩
  have hz : le.length + nl.length ≤ 16777216 := by omega
  generalize tupD c = tc at g1 er e2 ⊢
  have hfl := flat_l s2
  rcases hw7 with rfl | ⟨q, rfl⟩ <;> rcases hw8 with rfl | ⟨d', rfl⟩ <;> simp [e1, ioOf, H.h51, d_51, List.findIdx?, List.findIdx?.go, eo, g1, er, e2, sizeLine_eq, hz, hfl]
/-- codes of a drawn tree -/
theorem ev_lcodes (hW : 2000 ≤ W) (H : Hk T pr) (n : Nat) {t e : Int} (t3 : 3 ≤ t) (t16 : t ≤ 16) (h3 : 0 ≤ e) (h4 : e < t) (s : Dc) :
    ∃ (cs : List (List Int)) (s' : Dc), CsOk t e cs ∧ evF T pr W (n + 3) 55 [.ow false (.lst s.l), .va (.int t), .va (.int e)] = .ok (.va (Bs.codes t e cs).d, some (.lst s'.l)) := by
  have e0 := ev_lplain (W := W) H (n + 1) h3 h4 t16
  have pl0 := pl_len (t := t) (e := e)
  have e1 : evE T (evF T pr W (n + 2)) c_55_2 [.ow false (.lst s.l), .va (.int t), .va (.int e), .ow true (.lst ((plL t e).map .int)), .un, .un, .un, .un, .un] = .ok (.fr (.lst ((plL t e).filterMap fun x => some (tupD [x]))), [.ow false (.lst s.l), .va (.int t), .va (.int e), .va (.lst ((plL t e).map .int)), .un, .un, .un, .un, .un]) := by
    refine evE_lc_pure (fun x : Int => D.int x) _ (plL t e) ?_ ?_ ?_ fun x hx => ⟨[.ow false (.lst s.l), .va (.int t), .va (.int e), .va (.lst ((plL t e).map .int)), .un, .va (.int x), .un, .un, .un], ?_⟩
    · simp
    · simp
    · rw [sizeLine_eq, pl_len]; omega
    · simp [lcW, sizeLine_eq]
  rw [fm_some] at e1
  have m1 : (plL t e).map (fun x => tupD [x]) = ((plL t e).map fun x => [x]).map tupD := by rw [List.map_map]; rfl
  rw [m1] at e1
  have lv := lv_first h3 h4 (t := t) (e := e)
  have hl0 : ((plL t e).map fun x => [x]).length = (t - 1).toNat := by rw [List.length_map, pl_len]
  generalize (plL t e).map (fun x => [x]) = l0 at e1 lv hl0
  have eo := ev_off (pr := pr) (W := W) H.h51 (n + 1) s 3 (by omega) (by omega)
  obtain ⟨r0, r1⟩ := offP_range s 3 (by omega)
  generalize (offP s 3).1 = k at eo r0 r1
  generalize (offP s 3).2 = s1 at eo
  obtain ⟨s2, l2, w6, w7, w8, hw7, hw8, lv2, hl2, e2⟩ : ∃ (s2 : Dc) (l2 : List (List Int)) (w6 w7 w8 : Sl), (w7 = .un ∨ ∃ q, w7 = .ow true q) ∧ Fr w8 ∧ LvOk t e 4 l2 ∧ (t ≤ l2.length ∧ l2.length ≤ 100) ∧ evS T (evF T pr W (n + 2)) W w_55_0 [.ow false (.lst s.l), .va (.int t), .va (.int e), .va (.lst ((plL t e).map .int)), .ow true (.lst (l0.map tupD)), .un, .un, .un, .un] = .ok (.nx, [.ow false (.lst s2.l), .va (.int t), .va (.int e), .va (.lst ((plL t e).map .int)), .ow true (.lst (l2.map tupD)), .un, w6, w7, w8]) := by
    unfold w_55_0
    rw [evS]
    have ei : evI T (evF T pr W (n + 2)) (.rng1 (.bin .add (.cI 1) (.call 51 (.cons (.var 0) (.cons (.cI 3) .nil))))) [.ow false (.lst s.l), .va (.int t), .va (.int e), .va (.lst ((plL t e).map .int)), .ow true (.lst (l0.map tupD)), .un, .un, .un, .un] = .ok (rangeD 0 (1 + k), [.ow false (.lst s1.l), .va (.int t), .va (.int e), .va (.lst ((plL t e).map .int)), .ow true (.lst (l0.map tupD)), .un, .un, .un, .un]) := by
      have : 1 + k < 4611686018427387904 ∧ -4611686018427387904 ≤ 1 + k := by omega
      simp [ioOf, H.h51, d_51, List.findIdx?, List.findIdx?.go, eo, flat_l, this]
    rw [ei, Rs.bind_ok]
    obtain ⟨sl', e', s', l', w6, w7, w8, hw6, hw7, hw8, lv', hl', es⟩ := forLoop_inv (rangeD 0 (1 + k)) (body := fun d sl => (giveT (.one 6) d sl).bind fun sl => evSs T (evF T pr W (n + 2)) W (.cons (.asg 7 (c_55_1)) (.cons (.asg 8 (.ix (.var 7) (.call 51 (.cons (.var 0) (.cons (.bi .len (.cons (.var 7) .nil)) .nil))))) (.cons (.ex (.bm .remove (.var 4) (.cons (.var 8) .nil))) (.cons (.asg 4 (.bin .add (.var 4) (c_55_0))) .nil)))) sl)
      (I := fun i sl => ∃ (s' : Dc) (l' : List (List Int)) (w6 w7 w8 : Sl), Fr w6 ∧ (w7 = .un ∨ ∃ q, w7 = .ow true q) ∧ Fr w8 ∧ LvOk t e (i + 1) l' ∧ (l'.length : Int) = (t - 1) + i * (t - 2) ∧ sl = [.ow false (.lst s'.l), .va (.int t), .va (.int e), .va (.lst ((plL t e).map .int)), .ow true (.lst (l'.map tupD)), .un, w6, w7, w8]) (sl := [.ow false (.lst s1.l), .va (.int t), .va (.int e), .va (.lst ((plL t e).map .int)), .ow true (.lst (l0.map tupD)), .un, .un, .un, .un])
      ⟨s1, l0, .un, .un, .un, .inl rfl, .inl rfl, .inl rfl, lv, by rw [hl0]; simp; omega, rfl⟩ (fun i d sl hd ⟨s', l', w6, w7, w8, hw6, hw7, hw8, lv', hl', es⟩ => by
        obtain ⟨hi, hd⟩ := rangeD_get hd
        subst hd es
        have hi3 : i < 3 := by omega
        have hb : (i : Int) * (t - 2) ≤ 2 * 14 := by
          have h1 : (i : Int) ≤ 2 := by omega
          have h2 : t - 2 ≤ 14 := by omega
          exact Int.mul_le_mul h1 h2 (by omega) (by omega)
        have hb0 : 0 ≤ (i : Int) * (t - 2) := Int.mul_nonneg (by omega) (by omega)
        obtain ⟨s2, l2, w7', w8', hw7', hw8', lv2, hl2, e3⟩ := ev_leaf (W := W) H (n + 1) t3 t16 h3 h4 s' (k := i + 1) (by omega) lv' (by omega) (by omega) (.va (.int (0 + (i : Nat)))) w7 w8 hw7 hw8
        refine ⟨_, ?_, s2, l2, .va (.int (0 + (i : Nat))), w7', w8', .inr ⟨_, rfl⟩, hw7', hw8', lv2, ?_, rfl⟩
        · rw [← e3]
          rcases hw6 with rfl | ⟨d', rfl⟩ <;> rfl
        · have : ((i + 1 : Nat) : Int) * (t - 2) = i * (t - 2) + (t - 2) := by rw [Int.natCast_add, Int.add_mul]; omega
          omega)
    have hrl : ((rangeD 0 (1 + k)).length : Int) = 1 + k := by rw [rangeD_len]; omega
    have hle : (rangeD 0 (1 + k)).length + 1 ≤ 4 := by omega
    rw [hrl] at hl'
    have hb : k * (t - 2) ≤ 2 * 14 := Int.mul_le_mul (by omega) (by omega) (by omega) (by omega)
    have hb0 : 0 ≤ k * (t - 2) := Int.mul_nonneg (by omega) (by omega)
    have hd : (1 + k) * (t - 2) = (t - 2) + k * (t - 2) := by rw [Int.add_mul]; omega
    refine ⟨s', l', w6, w7, w8, hw7, hw8, ⟨fun c hc => ?_, lv'.pw⟩, ⟨by omega, by omega⟩, by rw [e', es]⟩
    obtain ⟨a, b, c⟩ := lv'.ok c hc
    exact ⟨a, by omega, c⟩
  obtain ⟨l3, s3, hp, e3⟩ := ev_mixed (n := n) hW H gd_tup s2 l2 (by omega)
  have lv3 := lv2.perm hp
  have hl3 : t ≤ l3.length := by rw [hp.length_eq]; exact hl2.1
  refine ⟨l3.take t.toNat, s3, lv_codes (by omega) lv3 hl3 (by omega), ?_⟩
  have ec : cutA (l3.map tupD) none (some t) = (l3.take t.toNat).map tupD := by
    have := cut_take (l3.map tupD) t.toNat
    rw [show ((t.toNat : Nat) : Int) = t by omega] at this
    rw [this, List.map_take]
  have eb : (Bs.codes t e (l3.take t.toNat)).d = .tup [.str "codes", .int t, .int e, .tup ((l3.take t.toNat).map tupD)] := rfl
  rw [eb]
  generalize (l3.take t.toNat).map tupD = R at ec ⊢
  generalize l3.map tupD = R3 at e3 ec
  generalize l2.map tupD = R2 at e2 e3
  have hf2 := flat_l s2
  have hf3 := flat_l s3
  rw [evF]
  by_cases hfl : (scs R3).isSome = true <;> simp [hfl, H.h55, d_55, b_55, List.findIdx?, List.findIdx?.go, ioOf, H.h54, d_54, H.h53, d_53, e0, e1, e2, e3, ec, sizeLine_eq, hf2, hf3]
end Wm

/-! L1c: drawn escapes are good -/
namespace Wm
open PySem L2 Pf Pd
variable {T : Tab} {pr : Nat → CF} {W : Nat}
/-- signs that are escaped, more than the end and the mark -/
def mrS (m : Int) (s : Dc) (x : Int) : Option D × Dc := if x = m then (none, s) else (if (offP s 3).1 = 0 then some (.int x) else none, (offP s 3).2)
theorem mr_fold (m : Int) : ∀ (xs : List Int) (s : Dc), ∃ r : List Int, (lcFold (mrS m) xs s).1 = r.map .int ∧ r.Sublist xs ∧ m ∉ r
  | [], s => ⟨[], rfl, List.Sublist.refl _, List.not_mem_nil⟩
  | x :: xs, s => by
    obtain ⟨r, e, sb, nm⟩ := mr_fold m xs (mrS m s x).2
    show ∃ r : List Int, optL (mrS m s x).1 ++ (lcFold (mrS m) xs (mrS m s x).2).1 = r.map .int ∧ _
    rw [e]
    by_cases c : x = m
    · exact ⟨r, by simp [mrS, c, optL], sb.cons x, nm⟩
    · by_cases c2 : (offP s 3).1 = 0
      · refine ⟨x :: r, by simp [mrS, c, c2, optL], sb.cons₂ x, fun z => ?_⟩
        rcases List.mem_cons.mp z with q | q
        · exact c q.symm
        · exact nm q
      · exact ⟨r, by simp [mrS, c, c2, optL], sb.cons x, nm⟩
theorem mem_pl {t e x : Int} (h3 : 0 ≤ e) (h4 : e < t) (h : x ∈ plL t e) : 0 ≤ x ∧ x < t ∧ x ≠ e := by
  unfold plL at h
  obtain ⟨i, hi, rfl⟩ := List.mem_map.mp h
  obtain ⟨i0, i1⟩ := mem_rg.mp hi
  exact sg_range h3 h4 i0 i1
theorem rg_getD {L : List Int} {k : Int} (hk : 0 ≤ k) (hl : k ≤ L.length) : (rg k).map (fun x => L.getD x.toNat 0) = L.take k.toNat := by
  apply List.ext_getElem?
  intro i
  rw [List.getElem?_map, List.getElem?_take]
  by_cases c : (i : Int) < k
  · rw [rg_get c, if_pos (by omega), Option.map_some, Int.toNat_natCast, List.getD_eq_getElem?_getD, List.getElem?_eq_getElem (by omega)]
    rfl
  · rw [List.getElem?_eq_none (by rw [rg_len]; omega), if_neg (by omega)]
    rfl
theorem sortI_spec (ns : List Int) : (sortI ns).Perm ns ∧ (sortI ns).Pairwise (· ≤ ·) := by
  refine ⟨List.mergeSort_perm _ _, ?_⟩
  have := List.pairwise_mergeSort (le := fun a b : Int => decide (a ≤ b)) (fun a b c h1 h2 => by simp at *; omega) (fun a b => by simp; omega) ns
  simpa [sortI] using this
theorem le_lt {l : List Int} (h : l.Pairwise (· ≤ ·)) (nd : l.Nodup) : l.Pairwise (· < ·) := by
  have := List.Pairwise.and h (List.nodup_iff_pairwise_ne.mp nd)
  exact this.imp fun {a b} q => by omega
theorem at_getD {L : List Int} {k : Int} (h0 : 0 ≤ k) (h1 : k < L.length) : atI (L.map D.int) k = some (.int (L.getD k.toNat 0)) := by
  obtain ⟨i, rfl⟩ : ∃ i : Nat, k = i := ⟨k.toNat, by omega⟩
  rw [Pf.atI_nat, List.getElem?_map, Int.toNat_natCast, List.getD_eq_getElem?_getD, List.getElem?_eq_getElem (by omega)]
  rfl
theorem ei_rng {T : Tab} {cf : CF} {a : PE} {sl sl' : Sls} {k : Int} (h0 : 0 ≤ k) (h1 : k < 1000000) (he : evE T cf a sl = .ok (.va (.int k), sl')) : evI T cf (.rng1 a) sl = .ok ((rg k).map .int, sl') := by
  have a1 : k < 2 ^ 62 ∧ -(2 ^ 62) ≤ k := by omega
  rw [evI, he, Rs.bind_ok]
  show Rs.bind (Rs.ok (D.int k)) _ = _
  rw [Rs.bind_ok]
  show (if k < 2 ^ 62 ∧ -(2 ^ 62) ≤ k then _ else _) = _
  rw [if_pos a1, rangeD_rg]
theorem ev_lesc (hW : 2000 ≤ W) (H : Hk T pr) (n : Nat) {t e : Int} (t3 : 3 ≤ t) (t16 : t ≤ 16) (h3 : 0 ≤ e) (h4 : e < t) (s : Dc) :
    ∃ (m : Int) (ps : List (Int × Int)) (s' : Dc), PrOk t e m ps ∧ evF T pr W (n + 3) 56 [.ow false (.lst s.l), .va (.int t), .va (.int e)] = .ok (.va (Bs.esc t e m ps).d, some (.lst s'.l)) := by
  have e0 := ev_lplain (W := W) H (n + 1) h3 h4 t16
  have pl0 := pl_len (t := t) (e := e)
  have eo := ev_off (pr := pr) (W := W) H.h51 (n + 1) s (plL t e).length (by omega) (by omega)
  obtain ⟨r0, r1⟩ := offP_range s (plL t e).length (by omega)
  generalize (offP s (plL t e).length).1 = j at eo r0 r1
  generalize (offP s (plL t e).length).2 = s1 at eo
  have g1 := at_getD r0 r1
  have gm : (plL t e).getD j.toNat 0 ∈ plL t e := by
    rw [List.getD_eq_getElem?_getD, List.getElem?_eq_getElem (by omega)]
    exact List.getElem_mem _
  generalize (plL t e).getD j.toNat 0 = m at g1 gm
  have hm := mem_pl h3 h4 gm
  have e1 : evE T (evF T pr W (n + 2)) c_56_1 [.ow false (.lst s1.l), .va (.int t), .va (.int e), .ow true (.lst ((plL t e).map .int)), .va (.int m), .un, .un, .un, .un, .un] = .ok (.fr (.lst (lcFold (mrS m) (plL t e) s1).1), [.ow false (.lst (lcFold (mrS m) (plL t e) s1).2.l), .va (.int t), .va (.int e), .va (.lst ((plL t e).map .int)), .va (.int m), .un, .un, .un, .un, .un]) := by
    refine evE_lc_st (fun s : Dc => [.ow false (.lst s.l), .va (.int t), .va (.int e), .va (.lst ((plL t e).map .int)), .va (.int m), .un, .un, .un, .un, .un]) (fun x : Int => D.int x) (mrS m) s1 (plL t e) ?_ ?_ ?_ (fun s x hx => ?_) (fun s j hj => ?_) (fun s => rfl)
    · simp
    · simp
    · rw [sizeLine_eq, pl_len]; omega
    · have eo := ev_off (pr := pr) (W := W) H.h51 (n + 1) s 3 (by omega) (by omega)
      have hf := flat_l (offP s 3).2
      by_cases c : x = m
      · refine ⟨[.ow false (.lst s.l), .va (.int t), .va (.int e), .va (.lst ((plL t e).map .int)), .va (.int m), .un, .va (.int x), .un, .un, .un], ?_⟩
        simp [lcW, mrS, c]
      · refine ⟨[.ow false (.lst (offP s 3).2.l), .va (.int t), .va (.int e), .va (.lst ((plL t e).map .int)), .va (.int m), .un, .va (.int x), .un, .un, .un], ?_⟩
        by_cases c2 : (offP s 3).1 = 0
        · rw [c2] at eo
          simp [lcW, mrS, c, c2, ioOf, H.h51, d_51, List.findIdx?, List.findIdx?.go, eo, hf]
        · simp [lcW, mrS, c, c2, ioOf, H.h51, d_51, List.findIdx?, List.findIdx?.go, eo, hf]
    · have : j = 6 := by simpa using hj
      subst this; rfl
  obtain ⟨r, er, sb, nm⟩ := mr_fold m (plL t e) s1
  rw [er] at e1
  generalize (lcFold (mrS m) (plL t e) s1).2 = s2 at e1
  obtain ⟨k, hk⟩ : ∃ k : Nat, t - 3 = k := ⟨(t - 3).toNat, by omega⟩
  have ec : cutA (r.map D.int) none (some (t - 3)) = (r.take k).map .int := by rw [hk, cut_take, List.map_take]
  obtain ⟨sp, so⟩ := sortI_spec (e :: m :: r.take k)
  have nd : (e :: m :: r.take k).Nodup := by
    have rn : (r.take k).Nodup := ((pl_nodup t e).sublist sb).sublist (List.take_sublist _ _)
    rw [List.nodup_cons, List.nodup_cons]
    refine ⟨fun z => ?_, fun z => nm (List.mem_of_mem_take z), rn⟩
    rcases List.mem_cons.mp z with q | q
    · exact hm.2.2 q.symm
    · exact (mem_pl h3 h4 (sb.subset (List.mem_of_mem_take q))).2.2 rfl
  have up := le_lt so (sp.nodup_iff.mpr nd)
  have hmem : ∀ x, x ∈ sortI (e :: m :: r.take k) ↔ x = e ∨ x = m ∨ x ∈ r.take k := fun x => by rw [sp.mem_iff, List.mem_cons, List.mem_cons]
  have hsl : (sortI (e :: m :: r.take k)).length ≤ (plL t e).length := by
    rw [sp.length_eq, List.length_cons, List.length_cons, List.length_take]
    omega
  have hrk : ∀ x ∈ r.take k, 0 ≤ x ∧ x < t := fun x hx => by
    have := mem_pl h3 h4 (sb.subset (List.mem_of_mem_take hx))
    exact ⟨this.1, this.2.1⟩
  have es : biD .sorted [.lst (.int e :: .int m :: (r.take k).map .int)] = .ok (.fr (.lst ((sortI (e :: m :: r.take k)).map .int))) := by
    show (Rs.of (intsD ((e :: m :: r.take k).map .int))).bind _ = _
    rw [intsD_of]; rfl
  have hlk : (r.take k).length ≤ 1000 := by
    have := sb.length_le
    rw [List.length_take]; omega
  generalize sortI (e :: m :: r.take k) = sgs at up hmem hsl es
  have rk := hrk
  generalize r.take k = rt at ec es hmem rk hlk
  obtain ⟨l3, s3, hp, e3⟩ := ev_mixed (n := n) hW H gd_int s2 (plL t e) (by omega)
  have hl3 : l3.length = (plL t e).length := hp.length_eq
  have e4 : ∀ P : D, evE T (evF T pr W (n + 2)) c_56_0 [.ow false (.lst s3.l), .va (.int t), .va (.int e), .va P, .va (.int m), .ow true (.lst (r.map .int)), .un, .ow true (.lst (sgs.map .int)), .ow true (.lst (l3.map .int)), .un] = .ok (.fr (.lst ((rg sgs.length).filterMap fun x => some (prD (sgs.getD x.toNat 0, l3.getD x.toNat 0)))), [.ow false (.lst s3.l), .va (.int t), .va (.int e), .va P, .va (.int m), .ow true (.lst (r.map .int)), .un, .ow true (.lst (sgs.map .int)), .ow true (.lst (l3.map .int)), .un]) := fun P => by
    refine evE_lc_pure (fun x : Int => D.int x) _ (rg sgs.length) ?_ ?_ ?_ fun x hx => ⟨[.ow false (.lst s3.l), .va (.int t), .va (.int e), .va P, .va (.int m), .ow true (.lst (r.map .int)), .un, .ow true (.lst (sgs.map .int)), .ow true (.lst (l3.map .int)), .va (.int x)], ?_⟩
    · exact ei_rng (by omega) (by omega) (by simp)
    · simp
    · rw [sizeLine_eq, rg_len]; omega
    · obtain ⟨x0, x1⟩ := mem_rg.mp hx
      have q1 := at_getD (L := sgs) x0 x1
      have q2 := at_getD (L := l3) x0 (by omega)
      simp [lcW, q1, q2, sizeLine_eq]
  have e4 := e4 (.lst ((plL t e).map .int))
  rw [fm_some] at e4
  have m1 : (rg sgs.length).map (fun x => prD (sgs.getD x.toNat 0, l3.getD x.toNat 0)) = ((rg sgs.length).map fun x => (sgs.getD x.toNat 0, l3.getD x.toNat 0)).map prD := by rw [List.map_map]; rfl
  rw [m1] at e4
  have p1 : ((rg sgs.length).map fun x => (sgs.getD x.toNat 0, l3.getD x.toNat 0)).map (·.1) = sgs := by
    rw [List.map_map]
    have := rg_getD (L := sgs) (k := sgs.length) (by omega) (by omega)
    rw [Int.toNat_natCast, List.take_length] at this
    exact this
  have p2 : ((rg sgs.length).map fun x => (sgs.getD x.toNat 0, l3.getD x.toNat 0)).map (·.2) = l3.take sgs.length := by
    rw [List.map_map]
    have := rg_getD (L := l3) (k := sgs.length) (by omega) (by omega)
    rw [Int.toNat_natCast] at this
    exact this
  have p3 : ((rg sgs.length).map fun x => (sgs.getD x.toNat 0, l3.getD x.toNat 0)).length = sgs.length := by rw [List.length_map, rg_len]; omega
  generalize (rg sgs.length).map (fun x => (sgs.getD x.toNat 0, l3.getD x.toNat 0)) = ps at e4 p1 p2 p3
  refine ⟨m, ps, s3, ⟨by omega, by rw [p1]; exact up, fun q hq => ?_, by rw [p1]; exact (hmem e).mpr (.inl rfl), by rw [p1]; exact (hmem m).mpr (.inr (.inl rfl)), hm, by rw [p2]; exact (hp.nodup_iff.mpr (pl_nodup t e)).sublist (List.take_sublist _ _), fun q hq => ?_⟩, ?_⟩
  · have : q.1 ∈ sgs := by rw [← p1]; exact List.mem_map_of_mem hq
    rcases (hmem _).mp this with z | z | z
    · rw [z]; exact ⟨h3, h4⟩
    · rw [z]; exact ⟨hm.1, hm.2.1⟩
    · exact rk _ z
  · have : q.2 ∈ l3.take sgs.length := by rw [← p2]; exact List.mem_map_of_mem hq
    exact mem_pl h3 h4 (hp.mem_iff.mp (List.mem_of_mem_take this))
  · have eb : (Bs.esc t e m ps).d = .tup [.str "escapes", .int t, .int e, .int m, .tup (ps.map prD)] := rfl
    rw [eb]
    generalize ps.map prD = PS at e4 ⊢
    generalize sgs.map D.int = SG at es e4
    have hf1 := flat_l s1
    have hf3 := flat_l s3
    have hz : 2 + rt.length ≤ 16777216 := by omega
    have hf4 : (scs (l3.map D.int)).isSome = true := by simp
    generalize l3.map D.int = L3 at e3 e4 hf4
    have hf5 : (scs ((plL t e).map D.int)).isSome = true := by simp
    have hpl : ((plL t e).map D.int).length = (plL t e).length := List.length_map ..
    rw [← hpl] at eo
    generalize (plL t e).map D.int = PL at e0 eo g1 e1 e3 e4 hf5
    generalize r.map D.int = R at e1 ec e4
    rw [evF]
    simp [H.h56, d_56, b_56, List.findIdx?, List.findIdx?.go, ioOf, H.h54, d_54, H.h53, d_53, H.h51, d_51, e0, eo, g1, e1, ec, es, e3, e4, sizeLine_eq, hf1, hf3, hf4, hf5, hz]
end Wm

/-! L1d: drawn ways are good; drawn bodies -/
namespace Wm
open PySem L2 Pf Pd
variable {T : Tab} {pr : Nat → CF} {W : Nat}
theorem ev_lcore (hW : 2000 ≤ W) (H : T 59 = some d_59) (n : Nat) (gs : List (List Int)) (hg : gs.length ≤ 1000) (b : Bs) : evF T pr W (n + 1) 59 [.va (wayD gs b)] = .ok (.va b.d, none) := by
  have key : ∀ (gs : List (List Int)) (k : Nat), gs.length < k → whlLoop (fun sl => evT T (evF T pr W n) (.cmp .eq (.ix (.var 0) (.cI 0)) (.cS "turned")) sl) (fun sl => evSs T (evF T pr W n) W (.cons (.asg 0 (.ix (.var 0) (.cI 2))) .nil) sl) k [.va (wayD gs b)] = .ok (.nx, [.va b.d]) := by
    intro gs
    induction gs with
    | nil =>
      intro k hk
      obtain ⟨k, rfl⟩ : ∃ k', k = k' + 1 := ⟨k - 1, by omega⟩
      have := wt b
      unfold whlLoop
      simp [wayD, Bs.d, this]
    | cons g gs ih =>
      intro k hk
      rw [List.length_cons] at hk
      obtain ⟨k, rfl⟩ : ∃ k', k = k' + 1 := ⟨k - 1, by omega⟩
      have := ih k (by omega)
      unfold whlLoop
      simp [wayD]
      simpa using this
  have e1 : evS T (evF T pr W n) W w_59_0 [.va (wayD gs b)] = .ok (.nx, [.va b.d]) := by
    unfold w_59_0
    rw [evS]
    exact key gs W (by omega)
  rw [evF]
  simp [H, d_59, b_59, List.findIdx?, List.findIdx?.go, e1]
/-- the laws' look at a way's top and end -/
structure He (T : Tab) : Prop where
  h60 : T 60 = some d_60
theorem ev_ltop (hW : 2000 ≤ W) (H : Hk T pr) (n : Nat) (gs : List (List Int)) (hg : gs.length ≤ 1000) (b : Bs) : evF T pr W (n + 2) 60 [.va (wayD gs b)] = .ok (.va (.int b.t), none) := by
  have e1 := ev_lcore (pr := pr) hW H.h59 n gs hg b
  have fb : b.d = .tup (.str b.w :: .int b.t :: .int b.e :: b.r) := rfl
  rw [fb] at e1
  generalize wayD gs b = wd at e1
  rw [evF]
  simp [H.h60, d_60, b_60, List.findIdx?, List.findIdx?.go, ioOf, H.h59, d_59, e1]
theorem ev_lbase (hW : 2000 ≤ W) (H : Hk T pr) (n : Nat) {t : Int} (t3 : 3 ≤ t) (t16 : t ≤ 16) (s : Dc) :
    ∃ (b : Bs) (s' : Dc), (b.t = t ∧ 0 ≤ b.e ∧ b.e < t ∧ BsOk b) ∧ evF T pr W (n + 4) 57 [.ow false (.lst s.l), .va (.int t)] = .ok (.va b.d, some (.lst s'.l)) := by
  have off := fun (s : Dc) (m : Int) (h0 : 0 < m) (h1 : m < 1073741824) => ev_off (pr := pr) (W := W) H.h51 (n + 2) s m h0 h1
  have o1 := off s t (by omega) (by omega)
  have r1 := offP_range s t (by omega)
  generalize (offP s t).1 = e at o1 r1
  generalize (offP s t).2 = s1 at o1
  have o2 := off s1 7 (by omega) (by omega)
  have r2 := offP_range s1 7 (by omega)
  generalize (offP s1 7).1 = k at o2 r2
  generalize (offP s1 7).2 = s2 at o2
  have f1 := flat_l s1
  have f2 := flat_l s2
  by_cases c1 : k < 2
  · obtain ⟨cs, s3, ok, e3⟩ := ev_lcodes (n := n) hW H t3 t16 r1.1 r1.2 s2
    have f3 := flat_l s3
    refine ⟨.codes t e cs, s3, ⟨rfl, r1.1, r1.2, ok⟩, ?_⟩
    have fb : (Bs.codes t e cs).d = .tup [.str "codes", .int t, .int e, .tup (cs.map tupD)] := rfl
    rw [fb] at e3 ⊢
    generalize D.tup (cs.map tupD) = C at e3 ⊢
    rw [evF]
    simp [H.h57, d_57, b_57, List.findIdx?, List.findIdx?.go, ioOf, H.h51, d_51, H.h55, d_55, o1, o2, c1, e3, f1, f2, f3]
  · by_cases c2 : k = 2
    · subst c2
      obtain ⟨m, ps, s3, ok, e3⟩ := ev_lesc (n := n) hW H t3 t16 r1.1 r1.2 s2
      have f3 := flat_l s3
      refine ⟨.esc t e m ps, s3, ⟨rfl, r1.1, r1.2, ok⟩, ?_⟩
      have fb : (Bs.esc t e m ps).d = .tup [.str "escapes", .int t, .int e, .int m, .tup (ps.map prD)] := rfl
      rw [fb] at e3 ⊢
      generalize D.tup (ps.map prD) = C at e3 ⊢
      rw [evF]
      simp [H.h57, d_57, b_57, List.findIdx?, List.findIdx?.go, ioOf, H.h51, d_51, H.h56, d_56, o1, o2, e3, f1, f2, f3]
    · by_cases c3 : k = 6
      · subst c3
        refine ⟨.rnk t e, s2, ⟨rfl, r1.1, r1.2, trivial⟩, ?_⟩
        rw [evF]
        simp [H.h57, d_57, b_57, List.findIdx?, List.findIdx?.go, ioOf, H.h51, d_51, o1, o2, f1, f2, sizeLine_eq, Bs.d, Bs.w, Bs.t, Bs.e, Bs.r]
      · by_cases c4 : 3 < t
        · have o3 := off s2 (t - 2) (by omega) (by omega)
          have r3 := offP_range s2 (t - 2) (by omega)
          generalize (offP s2 (t - 2)).1 = q at o3 r3
          generalize (offP s2 (t - 2)).2 = s3 at o3
          have o4 := off s3 4 (by omega) (by omega)
          have r4 := offP_range s3 4 (by omega)
          generalize (offP s3 4).1 = z at o4 r4
          generalize (offP s3 4).2 = s4 at o4
          have f3 := flat_l s3
          have f4 := flat_l s4
          have ha : ∃ l : Int, (2 ≤ l ∧ l < t) ∧ atI ([.int 2, .int 3, .int (t - 1), .int (2 + q)] : List D) z = some (.int l) := by
            have : z = 0 ∨ z = 1 ∨ z = 2 ∨ z = 3 := by omega
            rcases this with rfl | rfl | rfl | rfl
            · exact ⟨2, by omega, rfl⟩
            · exact ⟨3, by omega, rfl⟩
            · exact ⟨t - 1, by omega, rfl⟩
            · exact ⟨2 + q, by omega, rfl⟩
          obtain ⟨l, hl, ha⟩ := ha
          refine ⟨.cnt t e l, s4, ⟨rfl, r1.1, r1.2, hl⟩, ?_⟩
          rw [evF]
          simp [H.h57, d_57, b_57, List.findIdx?, List.findIdx?.go, ioOf, H.h51, d_51, o1, o2, o3, o4, c1, c2, c3, c4, ha, f1, f2, f3, f4, sizeLine_eq, Bs.d, Bs.w, Bs.t, Bs.e, Bs.r]
        · refine ⟨.cnt t e 2, s2, ⟨rfl, r1.1, r1.2, ⟨by decide, show (2 : Int) < t by omega⟩⟩, ?_⟩
          rw [evF]
          simp [H.h57, d_57, b_57, List.findIdx?, List.findIdx?.go, ioOf, H.h51, d_51, o1, o2, c1, c2, c3, c4, f1, f2, sizeLine_eq, Bs.d, Bs.w, Bs.t, Bs.e, Bs.r]
theorem way_tup (gs : List (List Int)) (b : Bs) : ∃ L, wayD gs b = .tup L := by
  cases gs with
  | nil => exact ⟨_, rfl⟩
  | cons g gs => exact ⟨_, rfl⟩
theorem ev_lturned (hW : 2000 ≤ W) (H : Hk T pr) (n : Nat) {b : Bs} (t3 : 3 ≤ b.t) (t16 : b.t ≤ 16) (s : Dc) :
    ∃ (gs : List (List Int)) (s' : Dc), (gs.length ≤ 3 ∧ ∀ g ∈ gs, g.Perm (rg b.t)) ∧ evF T pr W (n + 3) 58 [.ow false (.lst s.l), .va b.d, .va (.int 3)] = .ok (.va (wayD gs b), some (.lst s'.l)) := by
  have o1 := ev_off (pr := pr) (W := W) H.h51 (n + 1) s 4 (by omega) (by omega)
  have r1 := offP_range s 4 (by omega)
  generalize (offP s 4).1 = z at o1 r1
  generalize (offP s 4).2 = s1 at o1
  have f1 := flat_l s1
  have ha : ∃ k : Int, (0 ≤ k ∧ k ≤ 3) ∧ atI ([.int 0, .int 0, .int 1, .int 3] : List D) z = some (.int k) := by
    have : z = 0 ∨ z = 1 ∨ z = 2 ∨ z = 3 := by omega
    rcases this with rfl | rfl | rfl | rfl
    · exact ⟨0, by omega, rfl⟩
    · exact ⟨0, by omega, rfl⟩
    · exact ⟨1, by omega, rfl⟩
    · exact ⟨3, by omega, rfl⟩
  obtain ⟨k, hk, ha⟩ := ha
  obtain ⟨gs, s', w, hg, hp, e2⟩ : ∃ (gs : List (List Int)) (s' : Dc) (w : Sl), gs.length ≤ 3 ∧ (∀ g ∈ gs, g.Perm (rg b.t)) ∧ evS T (evF T pr W (n + 2)) W w_58_0 [.ow false (.lst s.l), .va b.d, .va (.int 3), .un] = .ok (.nx, [.ow false (.lst s'.l), .va (wayD gs b), .va (.int 3), w]) := by
    unfold w_58_0
    rw [evS]
    have ei : evI T (evF T pr W (n + 2)) (.rng1 (.ix (.lst (.cons (.cI 0) (.cons (.cI 0) (.cons (.cI 1) (.cons (.var 2) .nil))))) (.call 51 (.cons (.var 0) (.cons (.cI 4) .nil))))) [.ow false (.lst s.l), .va b.d, .va (.int 3), .un] = .ok ((rg k).map .int, [.ow false (.lst s1.l), .va b.d, .va (.int 3), .un]) := by
      refine ei_rng hk.1 (by omega) ?_
      simp [ioOf, H.h51, d_51, List.findIdx?, List.findIdx?.go, o1, f1, ha, sizeLine_eq]
    rw [ei, Rs.bind_ok]
    obtain ⟨sl', e', gs, s', w, hw, hg, hp, es⟩ := forLoop_inv ((rg k).map D.int) (body := fun d sl => (giveT (.one 3) d sl).bind fun sl => evSs T (evF T pr W (n + 2)) W (.cons (.asg 1 (.tup (.cons (.cS "turned") (.cons (.bi .tuple (.cons (.call 53 (.cons (.var 0) (.cons (.bi .listRange (.cons (.call 60 (.cons (.var 1) .nil)) .nil)) .nil))) .nil)) (.cons (.var 1) .nil))))) .nil) sl)
      (I := fun i sl => ∃ (gs : List (List Int)) (s' : Dc) (w : Sl), Fr w ∧ gs.length = i ∧ (∀ g ∈ gs, g.Perm (rg b.t)) ∧ sl = [.ow false (.lst s'.l), .va (wayD gs b), .va (.int 3), w]) (sl := [.ow false (.lst s1.l), .va b.d, .va (.int 3), .un])
      ⟨[], s1, .un, .inl rfl, rfl, (fun g h => absurd h List.not_mem_nil), rfl⟩ (fun i d sl hd ⟨gs, s', w, hw, hg, hp, es⟩ => by
        obtain ⟨x, hx, rfl⟩ := get_map_int hd
        subst es
        have hi : i < (rg k).length := (List.getElem?_eq_some_iff.mp hx).1
        rw [rg_len] at hi
        have e3 := ev_ltop hW H n gs (by omega) b
        obtain ⟨g, s2, pg, e4⟩ := ev_mixed (n := n) hW H gd_int s' (rg b.t) (by rw [rg_len]; omega)
        have z3 : biD .listRange [.int b.t] = .ok (.fr (.lst ((rg b.t).map .int))) := by
          rw [bi_rng _ (by omega) (by omega), rangeD_rg]
        refine ⟨[.ow false (.lst s2.l), .va (wayD (g :: gs) b), .va (.int 3), .va (.int x)], ?_, g :: gs, s2, _, .inr ⟨_, rfl⟩, by rw [List.length_cons, hg], fun q hq => ?_, rfl⟩
        · have f2 := flat_l s2
          have fg : (scs (g.map D.int)).isSome = true := by simp
          have ew : wayD (g :: gs) b = .tup [.str "turned", .tup (g.map .int), wayD gs b] := rfl
          rw [ew]
          obtain ⟨L, hL⟩ := way_tup gs b
          rw [hL] at e3 ⊢
          generalize g.map D.int = G at e4 fg ⊢
          generalize (rg b.t).map D.int = R at e4 z3
          rcases hw with rfl | ⟨d', rfl⟩ <;> simp [ioOf, H.h60, d_60, H.h53, d_53, List.findIdx?, List.findIdx?.go, e3, e4, z3, f2, fg, sizeLine_eq]
        · rcases List.mem_cons.mp hq with c | c
          · rw [c]; exact pg
          · exact hp q c)
    rw [List.length_map, rg_len] at hg
    exact ⟨gs, s', w, by omega, hp, by rw [e', es]⟩
  refine ⟨gs, s', ⟨hg, hp⟩, ?_⟩
  have fb : b.d = .tup (.str b.w :: .int b.t :: .int b.e :: b.r) := rfl
  generalize b.d = bd at e2 ⊢
  obtain ⟨L, hL⟩ := way_tup gs b
  rw [hL] at e2 ⊢
  rw [evF]
  simp [H.h58, d_58, b_58, List.findIdx?, List.findIdx?.go, e2]
theorem ev_lway (hW : 2000 ≤ W) (H : Hk T pr) (n : Nat) (s : Dc) :
    ∃ (gs : List (List Int)) (b : Bs) (s' : Dc), WyOk gs b ∧ evF T pr W (n + 5) 63 [.ow false (.lst s.l)] = .ok (.va (wayD gs b), some (.lst s'.l)) := by
  obtain ⟨t, t3, t16, e1⟩ := ev_size (pr := pr) (W := W) H (n + 2) s
  generalize (offP s 8).2 = s1 at e1
  obtain ⟨b, s2, ⟨bt, b0, b1, bo⟩, e2⟩ := ev_lbase (n := n) hW H t3 t16 s1
  obtain ⟨gs, s3, ⟨hg, hp⟩, e3⟩ := ev_lturned (n := n + 1) hW H (b := b) (by omega) (by omega) s2
  refine ⟨gs, b, s3, ⟨by omega, by omega, b0, by omega, bo, hg, hp⟩, ?_⟩
  have fb : b.d = .tup (.str b.w :: .int b.t :: .int b.e :: b.r) := rfl
  rw [fb] at e2 e3
  generalize (.str b.w :: .int b.t :: .int b.e :: b.r : List D) = B at e2 e3
  obtain ⟨L, hL⟩ := way_tup gs b
  rw [hL] at e3 ⊢
  have f1 := flat_l s1
  have f2 := flat_l s2
  have f3 := flat_l s3
  rw [evF]
  simp [H.h63, d_63, b_63, List.findIdx?, List.findIdx?.go, ioOf, H.h58, d_58, H.h57, d_57, H.h62, d_62, e1, e2, e3, f1, f2, f3]
/-- drawn bodies -/
structure Hbd (T : Tab) : Prop where
  h64 : T 64 = some d_64
end Wm

/-! L2a: likeness; comprehensions by an invariant -/
namespace Wm
open PySem L2 Pf Pd
variable {T : Tab} {pr : Nat → CF} {W : Nat}
/-- data that _law_alike looks through -/
def AlD : Nat → D → Prop
  | _, .int _ => True
  | _, .bl _ => True
  | _, .non => True
  | _, .str _ => True
  | k + 1, .lst xs => xs.length ≤ 100000 ∧ ∀ x ∈ xs, AlD k x
  | k + 1, .tup xs => xs.length ≤ 100000 ∧ ∀ x ∈ xs, AlD k x
  | _, _ => False
theorem al_ints {k : Nat} {b : List Int} (hl : b.length ≤ 100000) : AlD (k + 1) (.lst (b.map .int)) := ⟨by simpa using hl, fun x hx => by
  obtain ⟨y, _, rfl⟩ := List.mem_map.mp hx
  cases k <;> trivial⟩
theorem bls_true : ∀ l : List Int, bls (l.map fun _ => D.bl true) = some (l.map fun _ => true)
  | [] => rfl
  | x :: l => by simp [bls, bls_true l]
theorem get_at {xs : List D} {k : Int} (h0 : 0 ≤ k) (h1 : k < xs.length) : ∃ x ∈ xs, atI xs k = some x := by
  obtain ⟨i, rfl⟩ : ∃ i : Nat, k = i := ⟨k.toNat, by omega⟩
  have hi : i < xs.length := by omega
  exact ⟨xs[i], List.getElem_mem hi, by rw [Pf.atI_nat, List.getElem?_eq_getElem hi]⟩
theorem ev_alike (H : T 52 = some d_52) (n : Nat) : ∀ (k : Nat) (x : D), AlD k x → evF T pr W (n + k + 1) 52 [.va x, .va x] = .ok (.va (.bl true), none) := by
  intro k
  induction k with
  | zero =>
    intro x h
    rw [evF]
    cases x <;> first | exact h.elim | simp [H, d_52, b_52, List.findIdx?, List.findIdx?.go, nonD, biD]
  | succ k ih =>
    intro x h
    have seq : ∀ (x : D) (xs : List D), (x = .lst xs ∨ x = .tup xs) → xs.length ≤ 100000 → (∀ y ∈ xs, AlD k y) → evF T pr W (n + (k + 1) + 1) 52 [.va x, .va x] = .ok (.va (.bl true), none) := fun x xs hx hl hy => by
      have e1 : evE T (evF T pr W (n + (k + 1))) c_52_0 [.va x, .va x, .un] = .ok (.fr (.lst ((rg xs.length).filterMap fun _ => some (.bl true))), [.va x, .va x, .un]) := by
        refine evE_lc_pure (fun z : Int => D.int z) _ (rg xs.length) ?_ ?_ ?_ fun z hz => ⟨[.va x, .va x, .va (.int z)], ?_⟩
        · refine ei_rng (by omega) (by omega) ?_
          rcases hx with rfl | rfl <;> simp
        · simp
        · rw [sizeLine_eq, rg_len]; omega
        · obtain ⟨z0, z1⟩ := mem_rg.mp hz
          obtain ⟨y, hm, g⟩ := get_at z0 z1
          have e2 : evF T pr W (n + (k + 1)) 52 [.va y, .va y] = .ok (.va (.bl true), none) := ih y (hy y hm)
          rcases hx with rfl | rfl <;> simp [lcW, ioOf, H, d_52, List.findIdx?, List.findIdx?.go, g, e2]
      rw [fm_some] at e1
      have e3 : biD .all [.lst ((rg xs.length).map fun _ => D.bl true)] = .ok (.va (.bl true)) := by
        show (Rs.of (bls _)).bind _ = _
        rw [bls_true]
        simp
      generalize (rg xs.length).map (fun _ => D.bl true) = L at e1 e3
      rw [evF]
      rcases hx with rfl | rfl
      · have i1 : biD .isB [.lst xs] = .ok (.va (.bl false)) := rfl
        have i2 : biD .isI [.lst xs] = .ok (.va (.bl false)) := rfl
        have i3 : biD .isS [.lst xs] = .ok (.va (.bl false)) := rfl
        have i4 : biD .isT [.lst xs] = .ok (.va (.bl false)) := rfl
        have i5 : biD .isL [.lst xs] = .ok (.va (.bl true)) := rfl
        simp [H, d_52, b_52, List.findIdx?, List.findIdx?.go, nonD, i1, i2, i3, i4, i5, e1, e3]
      · have i1 : biD .isB [.tup xs] = .ok (.va (.bl false)) := rfl
        have i2 : biD .isI [.tup xs] = .ok (.va (.bl false)) := rfl
        have i3 : biD .isS [.tup xs] = .ok (.va (.bl false)) := rfl
        have i4 : biD .isT [.tup xs] = .ok (.va (.bl true)) := rfl
        have i5 : biD .isL [.tup xs] = .ok (.va (.bl false)) := rfl
        simp [H, d_52, b_52, List.findIdx?, List.findIdx?.go, nonD, i1, i2, i3, i4, i5, e1, e3]
    cases x <;> first
      | exact h.elim
      | exact seq _ _ (.inl rfl) h.1 h.2
      | exact seq _ _ (.inr rfl) h.1 h.2
      | (rw [evF]; simp [H, d_52, b_52, List.findIdx?, List.findIdx?.go, nonD, biD])
/-- a comprehension by an invariant -/
theorem lcLoop_inv {body : D → Sls → Rs (Option D × Sls)} : ∀ (ds : List D) {I : Nat → List D → Sls → Prop} {acc : List D} {sl : Sls}, I 0 acc sl → (∀ i d acc sl, ds[i]? = some d → I i acc sl → ∃ o sl', body d sl = .ok (o, sl') ∧ I (i + 1) (acc ++ optL o) sl') → ∃ l sl', lcLoop body ds sl = .ok (l, sl') ∧ I ds.length (acc ++ l) sl'
  | [], I, acc, sl, h0, _ => ⟨[], sl, rfl, by simpa using h0⟩
  | d :: ds, I, acc, sl, h0, hs => by
    obtain ⟨o, sl1, e1, h1⟩ := hs 0 d acc sl rfl h0
    obtain ⟨l, sl2, e2, h2⟩ := lcLoop_inv ds (I := fun i => I (i + 1)) h1 fun i d' acc sl e h => hs (i + 1) d' acc sl (by simpa using e) h
    refine ⟨optL o ++ l, sl2, ?_, by rw [← List.append_assoc]; exact h2⟩
    unfold lcLoop
    rw [e1, Rs.bind_ok]
    dsimp only
    rw [e2, Rs.bind_ok]
    cases o <;> rfl
theorem evE_lc_inv {T : Tab} {cf : CF} {own : List Nat} {tg : Tgt} {it : PI} {cond : POpt} {elt : PE} (I : Nat → List D → Sls → Prop) {ds : List D} {sl sl1 : Sls} (hi : evI T cf it sl = .ok (ds, sl1)) (hl : ds.length < sizeLine) (hc : ∀ i acc sl, I i acc sl → calmS sl own = true) (h0 : I 0 [] sl1)
    (hs : ∀ i d acc sl, ds[i]? = some d → I i acc sl → ∃ o sl', lcW T cf own tg cond elt d (wipeS sl own) = .ok (o, sl') ∧ I (i + 1) (acc ++ optL o) sl') :
    ∃ l sl', evE T cf (.lc own tg it cond elt) sl = .ok (.fr (.lst l), backS sl1 sl' own) ∧ I ds.length l sl' := by
  rw [evE_lc, hi, Rs.bind_ok]
  obtain ⟨l, sl', e, h⟩ := lcLoop_inv (body := lcBody T cf own tg cond elt) ds h0 hs
  refine ⟨l, sl', ?_, by simpa using h⟩
  rw [if_pos ⟨hc _ _ _ h0, hl⟩, e, Rs.bind_ok, if_pos (hc _ _ _ h)]
theorem atI_last {α : Type} (xs : List α) (x : α) : atI (xs ++ [x]) (-1) = some x := by
  unfold atI ixN
  rw [List.length_append]
  simp only [List.length_cons, List.length_nil]
  rw [if_neg (by omega), if_pos (by omega)]
  have : (-1 + ((xs.length + (0 + 1) : Nat) : Int)).toNat = xs.length := by omega
  simp only [this, Option.bind_some]
  simp
theorem cut_last {α : Type} (xs : List α) (d : α) : cutA (xs ++ [d]) none (some (-1)) = xs := by
  unfold cutA HT.sIx
  have h : (-1 + ((xs.length : Int) + 1)).toNat = xs.length := by omega
  simp [h]
theorem count_last {f : List Int} {e : Int} (h : e ∉ f) : blD .count (.lst ((f ++ [e]).map .int)) [.int e] = .ok (.int 1) := by
  show (Rs.of (intsD _)).bind _ = _
  rw [intsD_of, Rs.of_some, Rs.bind_ok, List.count_append, List.count_eq_zero.mpr h]
  simp
theorem mul_list {xs : List D} {k : Int} (h0 : 0 ≤ k) (h1 : k ≤ 1000) (hl : xs.length ≤ 1000) : binD .mul (.lst xs) (.int k) = .ok (.fr (.lst (List.replicate k.toNat xs).flatten)) := by
  have h2 : xs.length * k.toNat ≤ 1000 * 1000 := Nat.mul_le_mul hl (by omega)
  show (if _ then _ else _ : Rs Rv) = _
  rw [if_pos ⟨by omega, by omega, by rw [sizeLine_eq]; omega⟩]
end Wm

/-! R1a: the laws' own writing: numbers, lists, rows -/
namespace Wm
open PySem L2 Pf Pd
variable {T : Tab} {pr : Nat → CF} {W : Nat}
/-- a number is told of a row (the law's own way) -/
theorem ev_lnumber (H : T 65 = some d_65) (n : Nat) {m : Int} (h1 : 2 ≤ m) (h2 : m ≤ 16) (r : List Int) : evF T pr W (n + 1) 65 [.va (.lst (r.map .int)), .va (.int m)] = .ok (.va (.int (num m r)), none) := by
  obtain ⟨f, a, l, w, hw, e1, h⟩ : ∃ (f a l : Int) (w : Sl), Fr w ∧ evS T (evF T pr W n) W w_65_0 [.va (.lst (r.map .int)), .va (.int m), .va (.int 0), .va (.int 0), .va (.int 1), .un] = .ok (.nx, [.va (.lst (r.map .int)), .va (.int m), .va (.int f), .va (.int a), .va (.int l), w]) ∧ f + a = num m r := by
    unfold w_65_0
    rw [evS]
    simp only [evI, evE, List.getElem?_cons_zero, Rs.bind_ok, Pf.settle, Rs.of_some]
    obtain ⟨sl', e, f, a, l, w, hw, es, k1, k2⟩ := forLoop_inv (r.map .int) (body := fun d sl => (giveT (.one 5) d sl).bind fun sl => evSs T (evF T pr W n) W (.cons (.asg 2 (.bin .add (.bin .mul (.var 2) (.var 1)) (.var 5))) (.cons (.asg 3 (.bin .add (.var 3) (.var 4))) (.cons (.asg 4 (.bin .mul (.var 4) (.var 1))) .nil))) sl)
      (I := fun i sl => ∃ (f a l : Int) (w : Sl), Fr w ∧ sl = [.va (.lst (r.map .int)), .va (.int m), .va (.int f), .va (.int a), .va (.int l), w] ∧ f + a = num m (r.take i) ∧ a * m + 1 = a + l) (sl := [.va (.lst (r.map .int)), .va (.int m), .va (.int 0), .va (.int 0), .va (.int 1), .un])
      ⟨0, 0, 1, .un, .inl rfl, rfl, rfl, by omega⟩ (fun i d sl hd ⟨f, a, l, w, hw, es, k1, k2⟩ => by
        obtain ⟨c, hc, rfl⟩ := get_map_int hd
        subst es
        refine ⟨[.va (.lst (r.map .int)), .va (.int m), .va (.int (f * m + c)), .va (.int (a + l)), .va (.int (l * m)), .va (.int c)], ?_, _, _, _, _, .inr ⟨_, rfl⟩, rfl, ?_, ?_⟩
        · have hm : ∀ i, binD .mul (.int i) (.int m) = .ok (.va (.int (i * m))) := fun i => bin_mulR i m ⟨by omega, by omega⟩
          rcases hw with rfl | ⟨d', rfl⟩ <;> simp [hm]
        · rw [take_succ hc, num_snoc, ← k1, Int.add_mul]; omega
        · rw [Int.add_mul]; omega)
    refine ⟨f, a, l, w, hw, by rw [← es]; exact e, ?_⟩
    rw [k1, List.length_map, List.take_length]
  rw [evF]
  simp [H, d_65, b_65, List.findIdx?, List.findIdx?.go, e1, h]
/-- the rows of length k -/
def pw (m : Int) : Nat → Int
  | 0 => 1
  | k + 1 => pw m k * m
theorem ahead_pw (m : Int) : ∀ k, ahead m (k + 1) = ahead m k + pw m k
  | 0 => by show (0 : Int) * m + 1 = 0 + 1; omega
  | k + 1 => by
    have := ahead_pw m k
    show ahead m (k + 1) * m + 1 = ahead m (k + 1) + pw m k * m
    have e : ahead m (k + 1) * m = ahead m k * m + pw m k * m := by rw [this, Int.add_mul]
    have e2 : ahead m (k + 1) = ahead m k * m + 1 := rfl
    omega
/-- a row's place among those of its length -/
def plc (m : Int) (r : List Int) : Int := num m r - ahead m r.length
theorem plc_snoc (m : Int) (r : List Int) (d : Int) : plc m (r ++ [d]) = plc m r * m + d := by
  unfold plc
  rw [num_snoc, List.length_append]
  show num m r * m + d + 1 - (ahead m r.length * m + 1) = _
  rw [Int.sub_mul]; omega
theorem list_w (hW : 2000 ≤ W) (n : Nat) {m : Int} (h1 : 2 ≤ m) (h2 : m ≤ 16) {r : List Int} (v : Vd m r) (hr : r.length ≤ 1000) : ∃ l : Int, evS T (evF T pr W n) W w_66_1 [.va (.int (num m r)), .va (.int m), .va (.int 0), .va (.int 1), .un, .un] = .ok (.nx, [.va (.int (plc m r)), .va (.int m), .va (.int r.length), .va (.int l), .un, .un]) := by
  have b := num_between (show (1 : Int) ≤ m by omega) r v
  have hm : ∀ i, binD .mul (.int i) (.int m) = .ok (.va (.int (i * m))) := fun i => bin_mulR i m ⟨by omega, by omega⟩
  unfold w_66_1
  rw [evS]
  obtain ⟨sl', e, q, hq⟩ := whlLoop_inv (test := fun sl => evT T (evF T pr W n) (.cmp .ge (.var 0) (.var 3)) sl) (body := fun sl => evSs T (evF T pr W n) W (.cons (.asg 0 (.bin .sub (.var 0) (.var 3))) (.cons (.asg 3 (.bin .mul (.var 3) (.var 1))) (.cons (.asg 2 (.bin .add (.var 2) (.cI 1))) .nil))) sl)
    (I := fun sl => ∃ k : Nat, k ≤ r.length ∧ sl = [.va (.int (num m r - ahead m k)), .va (.int m), .va (.int k), .va (.int (pw m k)), .un, .un])
    (μ := fun sl : Sls => match sl[2]? with | some (Sl.va (D.int k)) => r.length - k.toNat | _ => 0)
    (Q := fun sl => ∃ l : Int, sl = [.va (.int (plc m r)), .va (.int m), .va (.int r.length), .va (.int l), .un, .un]) (fun sl ⟨k, hk, es⟩ => by
      subst es
      have ap := ahead_pw m k
      by_cases q : k = r.length
      · subst q
        refine .inl ⟨[.va (.int (plc m r)), .va (.int m), .va (.int r.length), .va (.int (pw m r.length)), .un, .un], ?_, _, rfl⟩
        have : ¬ pw m r.length ≤ num m r - ahead m r.length := by omega
        simp [this, plc]
      · have mo := ahead_mono (show (1 : Int) ≤ m by omega) (show k + 1 ≤ r.length by omega)
        have : pw m k ≤ num m r - ahead m k := by omega
        refine .inr ⟨[.va (.int (num m r - ahead m k)), .va (.int m), .va (.int k), .va (.int (pw m k)), .un, .un], [.va (.int (num m r - ahead m (k + 1))), .va (.int m), .va (.int (k + 1 : Nat)), .va (.int (pw m (k + 1))), .un, .un], by simp [this], ?_, ⟨k + 1, by omega, rfl⟩, ?_⟩
        · have e1 : num m r - ahead m k - pw m k = num m r - ahead m (k + 1) := by omega
          simp [hm, e1, pw]
        · simp; omega) W [.va (.int (num m r)), .va (.int m), .va (.int 0), .va (.int 1), .un, .un] ⟨0, Nat.zero_le _, by simp [ahead, pw]⟩ (by simp; omega)
  exact ⟨q, by rw [← hq]; exact e⟩
theorem eiR (n : Nat) (a b l : Int) (k : Int) (hr : k < 4611686018427387904 ∧ -4611686018427387904 ≤ k) : evI T (evF T pr W n) (.rng1 (.var 2)) [.va (.int a), .va (.int b), .va (.int k), .va (.int l), .ow true (.lst []), .un] = .ok (rangeD 0 k, [.va (.int a), .va (.int b), .va (.int k), .va (.int l), .ow true (.lst []), .un]) := by
  simp [hr]
theorem list_f (n : Nat) {m : Int} (h1 : 2 ≤ m) (h2 : m ≤ 16) {r : List Int} (v : Vd m r) (hr : r.length ≤ 1000) (l : Int) : ∃ (x w : Sl), evS T (evF T pr W n) W w_66_0 [.va (.int (plc m r)), .va (.int m), .va (.int r.length), .va (.int l), .ow true (.lst []), .un] = .ok (.nx, [x, .va (.int m), .va (.int r.length), .va (.int l), .ow true (.lst (r.map .int)), w]) := by
  unfold w_66_0
  rw [evS]
  have ei := eiR (T := T) (pr := pr) (W := W) n (plc m r) m l r.length ⟨by omega, by omega⟩
  rw [ei, Rs.bind_ok]
  obtain ⟨sl', e, p, q, w, hw, hpq, hq, es⟩ := forLoop_inv (rangeD 0 r.length) (body := fun d sl => (giveT (.one 5) d sl).bind fun sl => evSs T (evF T pr W n) W (.cons (.ex (.bm .insert (.var 4) (.cons (.cI 0) (.cons (.bin .mod (.var 0) (.var 1)) .nil)))) (.cons (.asg 0 (.bin .fdiv (.var 0) (.var 1))) .nil)) sl)
    (I := fun i sl => ∃ (p q : List Int) (w : Sl), Fr w ∧ r = p ++ q ∧ q.length = i ∧ sl = [.va (.int (plc m p)), .va (.int m), .va (.int r.length), .va (.int l), .ow true (.lst (q.map .int)), w]) (sl := [.va (.int (plc m r)), .va (.int m), .va (.int r.length), .va (.int l), .ow true (.lst []), .un])
    ⟨r, [], .un, .inl rfl, by simp, rfl, rfl⟩ (fun i d sl hd ⟨p, q, w, hw, hpq, hq, es⟩ => by
      obtain ⟨hi, hd⟩ := rangeD_get hd
      subst hd es
      have hlen : r.length = p.length + q.length := by rw [hpq, List.length_append]
      rcases snoc_cases p with rfl | ⟨p', d, rfl⟩
      · simp at hlen; omega
      · have hd : 0 ≤ d ∧ d < m := v d (by rw [hpq]; simp)
        have z1 : plc m (p' ++ [d]) % m = d := by
          rw [plc_snoc, Int.add_comm, Int.add_mul_emod_self_right, Int.emod_eq_of_lt hd.1 hd.2]
        have z2 : plc m (p' ++ [d]) / m = plc m p' := by
          rw [plc_snoc, Int.add_comm, Int.add_mul_ediv_right _ _ (by omega), Int.ediv_eq_zero_of_lt hd.1 hd.2, Int.zero_add]
        refine ⟨[.va (.int (plc m p')), .va (.int m), .va (.int r.length), .va (.int l), .ow true (.lst ((d :: q).map .int)), .va (.int (0 + (i : Nat)))], ?_, p', d :: q, _, .inr ⟨_, rfl⟩, by rw [hpq]; simp, by simp [hq], rfl⟩
        have hz : q.length < 16777216 := by omega
        rcases hw with rfl | ⟨d', rfl⟩ <;> simp [z1, z2, show (0 : Int) < m by omega, show m < 1073741824 by omega, sizeLine_eq, hz])
  have hp : p = [] := by
    have := congrArg List.length hpq
    rw [List.length_append, hq, rangeD_len] at this
    exact List.eq_nil_of_length_eq_zero (by omega)
  subst hp
  rw [List.nil_append] at hpq
  subst hpq
  exact ⟨_, _, by rw [e, es]⟩
theorem ev_llist (hW : 2000 ≤ W) (H : T 66 = some d_66) (n : Nat) {m : Int} (h1 : 2 ≤ m) (h2 : m ≤ 16) {r : List Int} (v : Vd m r) (hr : r.length ≤ 1000) : evF T pr W (n + 1) 66 [.va (.int (num m r)), .va (.int m)] = .ok (.fr (.lst (r.map .int)), none) := by
  have b := num_between (show (1 : Int) ≤ m by omega) r v
  have hm : ∀ i, binD .mul (.int i) (.int m) = .ok (.va (.int (i * m))) := fun i => bin_mulR i m ⟨by omega, by omega⟩
  obtain ⟨l, e1⟩ := list_w (T := T) (pr := pr) hW n h1 h2 v hr
  obtain ⟨x, w, e2⟩ := list_f (T := T) (pr := pr) (W := W) n h1 h2 v hr l
  rw [evF]
  simp [H, d_66, b_66, List.findIdx?, List.findIdx?.go, e1, e2, sizeLine_eq]
theorem add_map {β : Type} (g : β → D) {a b : List β} (h : a.length + b.length ≤ 16777216) : binD .add (.lst (a.map g)) (.lst (b.map g)) = .ok (.fr (.lst ((a ++ b).map g))) := by
  show (if _ then _ else _ : Rs Rv) = _
  rw [if_pos (by rw [List.length_map, List.length_map, sizeLine_eq]; exact h), List.map_append]
/-- a list cut at places -/
theorem cut_mid (r : List Int) (a b : Int) : ∃ s : List Int, cutA (r.map D.int) (some a) (some b) = s.map .int ∧ s.length ≤ r.length ∧ ∀ x ∈ s, x ∈ r := by
  unfold cutA
  rw [← List.map_drop, ← List.map_take]
  refine ⟨_, rfl, ?_, fun x hx => List.mem_of_mem_drop (List.mem_of_mem_take hx)⟩
  rw [List.length_take, List.length_drop]; omega
theorem get_int {ns : List Int} {k : Int} (h0 : 0 ≤ k) (h1 : k < ns.length) : ∃ x, x ∈ ns ∧ atI (ns.map D.int) k = some (.int x) := by
  obtain ⟨i, rfl⟩ : ∃ i : Nat, k = i := ⟨k.toNat, by omega⟩
  have hi : i < ns.length := by omega
  exact ⟨ns[i], List.getElem_mem hi, by rw [Pf.atI_nat, List.getElem?_map, List.getElem?_eq_getElem hi]; rfl⟩
abbrev rwD (r : List Int) : D := .lst (r.map .int)
theorem ev_lrows (H : T 67 = some d_67) (n : Nat) (r : List Int) (e : Int) (hr : r.length ≤ 1000) :
    ∃ rs : List (List Int), (∀ s ∈ rs, s.length ≤ r.length ∧ ∀ x ∈ s, x ∈ r) ∧ rs.length ≤ r.length + 1 ∧ evF T pr W (n + 1) 67 [.va (.lst (r.map .int)), .va (.int e)] = .ok (.fr (.lst (rs.map rwD)), none) := by
  have e1 : evE T (evF T pr W n) c_67_1 [.va (.lst (r.map .int)), .va (.int e), .un, .un] = .ok (.fr (.lst ((rg r.length).filterMap fun k => if r[k.toNat]? = some e then some (.int k) else none)), [.va (.lst (r.map .int)), .va (.int e), .un, .un]) := by
    refine evE_lc_pure (fun k : Int => D.int k) _ (rg r.length) ?_ ?_ ?_ fun k hk => ⟨[.va (.lst (r.map .int)), .va (.int e), .un, .va (.int k)], ?_⟩
    · exact ei_rng (by omega) (by omega) (by simp)
    · simp
    · rw [sizeLine_eq, rg_len]; omega
    · obtain ⟨k0, k1⟩ := mem_rg.mp hk
      obtain ⟨i, rfl⟩ : ∃ i : Nat, k = i := ⟨k.toNat, by omega⟩
      have hi : i < r.length := by omega
      have g : atI (r.map D.int) (i : Nat) = some (.int r[i]) := by rw [Pf.atI_nat, List.getElem?_map, List.getElem?_eq_getElem hi]; rfl
      have g2 : r[((i : Nat) : Int).toNat]? = some r[i] := by rw [Int.toNat_natCast, List.getElem?_eq_getElem hi]
      rw [g2]
      generalize r[i] = y at g
      generalize r.map D.int = RD at g ⊢
      generalize ((i : Nat) : Int) = kk at g ⊢
      by_cases c : y = e
      · subst c; simp [lcW, g]
      · simp [lcW, g, c]
  have e2 : ∃ cs : List Int, (rg r.length).filterMap (fun k => if r[k.toNat]? = some e then some (D.int k) else none) = cs.map .int ∧ cs.length ≤ r.length := by
    refine ⟨(rg r.length).filterMap fun k => if r[k.toNat]? = some e then some k else none, ?_, ?_⟩
    · rw [List.map_filterMap]
      congr 1
      funext k
      split <;> rfl
    · have := List.length_filterMap_le (fun k => if r[k.toNat]? = some e then some k else none) (rg r.length)
      rw [rg_len, Int.toNat_natCast] at this
      exact this
  obtain ⟨cs, hcs, hcl⟩ := e2
  rw [hcs] at e1
  have a1 : binD .add (.lst [.int (-1)]) (.lst (cs.map .int)) = .ok (.fr (.lst (([-1] ++ cs).map .int))) := add_map D.int (a := [-1]) (by simp; omega)
  have a2 : binD .add (.lst (([-1] ++ cs).map .int)) (.lst [.int r.length]) = .ok (.fr (.lst (([-1] ++ cs ++ [(r.length : Int)]).map .int))) := add_map D.int (a := [-1] ++ cs) (b := [(r.length : Int)]) (by simp; omega)
  have hcl2 : ([-1] ++ cs ++ [(r.length : Int)]).length = cs.length + 2 := by simp
  generalize [-1] ++ cs ++ [(r.length : Int)] = cu at a2 hcl2
  have e3 : ∃ rs : List (List Int), (∀ s ∈ rs, s.length ≤ r.length ∧ ∀ x ∈ s, x ∈ r) ∧ rs.length = cs.length + 1 ∧ evE T (evF T pr W n) c_67_0 [.va (.lst (r.map .int)), .va (.int e), .ow true (.lst (cu.map .int)), .un] = .ok (.fr (.lst (rs.map rwD)), [.va (.lst (r.map .int)), .va (.int e), .ow true (.lst (cu.map .int)), .un]) := by
    have pick : ∀ k : Int, ∃ s : List Int, (s.length ≤ r.length ∧ ∀ x ∈ s, x ∈ r) ∧ (0 ≤ k → k < cs.length + 1 → ∃ a b : Int, atI (cu.map D.int) k = some (.int a) ∧ atI (cu.map D.int) (k + 1) = some (.int b) ∧ cutA (r.map D.int) (some (a + 1)) (some b) = s.map .int) := fun k => by
      by_cases c : 0 ≤ k ∧ k < cs.length + 1
      · obtain ⟨a, _, ha⟩ := get_int (ns := cu) (k := k) c.1 (by omega)
        obtain ⟨b, _, hb⟩ := get_int (ns := cu) (k := k + 1) (by omega) (by omega)
        obtain ⟨s, h1, h2, h3⟩ := cut_mid r (a + 1) b
        exact ⟨s, ⟨h2, h3⟩, fun _ _ => ⟨a, b, ha, hb, h1⟩⟩
      · exact ⟨[], ⟨Nat.zero_le _, fun x h => absurd h List.not_mem_nil⟩, fun h0 h1 => absurd ⟨h0, h1⟩ c⟩
    refine ⟨(rg (cs.length + 1)).map fun k => (pick k).choose, fun s hs => ?_, by rw [List.length_map, rg_len]; omega, ?_⟩
    · obtain ⟨k, _, rfl⟩ := List.mem_map.mp hs
      exact (pick k).choose_spec.1
    · have e4 : evE T (evF T pr W n) c_67_0 [.va (.lst (r.map .int)), .va (.int e), .ow true (.lst (cu.map .int)), .un] = .ok (.fr (.lst ((rg (cs.length + 1)).filterMap fun k => some (rwD (pick k).choose))), [.va (.lst (r.map .int)), .va (.int e), .ow true (.lst (cu.map .int)), .un]) := by
        refine evE_lc_pure (fun k : Int => D.int k) _ (rg (cs.length + 1)) ?_ ?_ ?_ fun k hk => ⟨[.va (.lst (r.map .int)), .va (.int e), .ow true (.lst (cu.map .int)), .va (.int k)], ?_⟩
        · refine ei_rng (by omega) (by omega) ?_
          have : ((cu.map D.int).length : Int) = cs.length + 2 := by rw [List.length_map, hcl2]; omega
          generalize cu.map D.int = CU at this
          simp [this]
          omega
        · simp
        · rw [sizeLine_eq, rg_len]; omega
        · obtain ⟨k0, k1⟩ := mem_rg.mp hk
          obtain ⟨a, b, ha, hb, hc⟩ := (pick k).choose_spec.2 k0 k1
          generalize (pick k).choose = s at hc
          generalize cu.map D.int = CU at ha hb ⊢
          unfold rwD
          generalize s.map D.int = SD at hc ⊢
          generalize r.map D.int = RD at hc ⊢
          simp [lcW, ha, hb, hc]
      rw [fm_some] at e4
      rw [List.map_map]
      exact e4
  obtain ⟨rs, h1, h2, e5⟩ := e3
  refine ⟨rs, h1, by omega, ?_⟩
  have hrl : ((r.map D.int).length : Int) = r.length := by rw [List.length_map]
  generalize rs.map rwD = RS at e5 ⊢
  generalize cu.map D.int = CU at a2 e5
  generalize ([-1] ++ cs).map D.int = C1 at a1 a2
  generalize cs.map D.int = C0 at e1 a1
  generalize r.map D.int = RD at e1 e5 hrl ⊢
  generalize (r.length : Int) = rl at hrl a2
  rw [evF]
  simp [H, d_67, b_67, List.findIdx?, List.findIdx?.go, e1, a1, a2, e5, hrl, sizeLine_eq]
end Wm

/-! R1b: the laws' own writing by counts -/
namespace Wm
open PySem L2 Pf Pd
variable {T : Tab} {pr : Nat → CF} {W : Nat}
theorem evSs_nx {T : Tab} {cf : CF} {s : PS} {ss : PSs} {sl sl' : Sls} (h : evS T cf W s sl = .ok (.nx, sl')) : evSs T cf W (.cons s ss) sl = evSs T cf W ss sl' := by
  rw [evSs, h, Rs.bind_ok]
theorem cut_tm (a : List Int) {z : Int} (h : 0 ≤ z) : cutA (a.map D.int) none (some z) = (a.take z.toNat).map .int := by
  have := cut_take (a.map D.int) z.toNat
  rw [Int.toNat_of_nonneg h] at this
  rw [this, List.map_take]
theorem cut_dm (a : List Int) {z : Int} (h : 0 ≤ z) : cutA (a.map D.int) (some z) none = (a.drop z.toNat).map .int := by
  have := cut_drop (a.map D.int) z.toNat
  rw [Int.toNat_of_nonneg h] at this
  rw [this, List.map_drop]
theorem vd_take {t : Int} {l : List Int} (h : Vd t l) (k : Nat) : Vd t (l.take k) := fun x hx => h x (List.mem_of_mem_take hx)
theorem vd_drop {t : Int} {l : List Int} (h : Vd t l) (k : Nat) : Vd t (l.drop k) := fun x hx => h x (List.mem_of_mem_drop hx)
/-- a plain sign -/
theorem pl_at {t e k : Int} (h3 : 0 ≤ e) (h4 : e < t) (k0 : 0 ≤ k) (k1 : k < t - 1) : ∃ x, (0 ≤ x ∧ x < t) ∧ atI ((plL t e).map D.int) k = some (.int x) := by
  obtain ⟨x, hx, ha⟩ := get_int (ns := plL t e) k0 (by rw [pl_len]; omega)
  have := mem_pl h3 h4 hx
  exact ⟨x, ⟨this.1, this.2.1⟩, ha⟩
def cB : PSs := (.cons (.asg 6 (.bin .add (.bin .add (.var 6) (.lst (.cons (.ix (.var 2) (.var 5)) .nil))) (.sl (.var 8) .none (.some (.var 5))))) (.cons (.asg 8 (.sl (.var 8) (.some (.var 5)) .none)) .nil))
theorem cnt_step {cf : CF} {a0 a1 a3 a4 a7 w9 w8 : Sl} {PL L0 L1 L2 F0 F1 F2 : List D} {z x : Int} (hx : atI PL z = some (.int x)) (hw : w8 = .va (.lst L0) ∨ w8 = .ow true (.lst L0)) (g1 : binD .add (.lst F0) (.lst [.int x]) = .ok (.fr (.lst F1))) (g2 : cutA L0 none (some z) = L1) (g3 : binD .add (.lst F1) (.lst L1) = .ok (.fr (.lst F2))) (g4 : cutA L0 (some z) none = L2) :
    evSs T cf W cB [a0, a1, .va (.lst PL), a3, a4, .va (.int z), .ow true (.lst F0), a7, w8, w9] = .ok (.nx, [a0, a1, .va (.lst PL), a3, a4, .va (.int z), .ow true (.lst F2), a7, .ow true (.lst L2), w9]) := by
  unfold cB
  rcases hw with rfl | rfl <;> simp [hx, g1, g2, g3, g4, sizeLine_eq]
theorem cnt_in {cf : CF} {t e z : Int} (h3 : 0 ≤ e) (h4 : e < t) (t16 : t ≤ 16) (z1 : 1 ≤ z) (z2 : z < t - 1) {a0 a1 a3 w9 : Sl} (hw9 : Fr w9) {RS : List D} {k : Int} {r : List Int} (hr : atI RS k = some (rwD r)) (v : Vd t r) (hl : r.length ≤ 1000) {F : List Int} (vF : Vd t F) (hF : F.length ≤ 1000000) :
    ∃ (F' l : List Int) (w8 w9' : Sl), Fr w9' ∧ (w8 = .va (rwD l) ∨ w8 = .ow true (.lst (l.map .int))) ∧ Vd t F' ∧ F'.length ≤ F.length + 2 * r.length ∧ Vd t l ∧ l.length < z ∧ l.length ≤ r.length ∧
      evS T cf W w_68_0 [a0, a1, .va (.lst ((plL t e).map .int)), a3, .ow true (.lst RS), .va (.int z), .ow true (.lst (F.map .int)), .va (.int k), .va (rwD r), w9] =
      .ok (.nx, [a0, a1, .va (.lst ((plL t e).map .int)), a3, .ow true (.lst RS), .va (.int z), .ow true (.lst (F'.map .int)), .va (.int k), w8, w9']) := by
  obtain ⟨x, rx, hx⟩ := pl_at (t := t) h3 h4 (k := z) (by omega) z2
  unfold w_68_0
  rw [evS]
  have dv : ((r.length : Int) / z) ≤ r.length := Int.ediv_le_self _ (by omega)
  have dn : 0 ≤ (r.length : Int) / z := Int.ediv_nonneg (by omega) (by omega)
  have ei : evI T cf (.rng1 (.bin .fdiv (.bi .len (.cons (.ix (.var 4) (.var 7)) .nil)) (.var 5))) [a0, a1, .va (.lst ((plL t e).map .int)), a3, .ow true (.lst RS), .va (.int z), .ow true (.lst (F.map .int)), .va (.int k), .va (rwD r), w9] = .ok ((rg ((r.length : Int) / z)).map .int, [a0, a1, .va (.lst ((plL t e).map .int)), a3, .ow true (.lst RS), .va (.int z), .ow true (.lst (F.map .int)), .va (.int k), .va (rwD r), w9]) := by
    refine ei_rng dn (by omega) ?_
    have hlen : biD .len [rwD r] = .ok (.va (.int r.length)) := by unfold rwD; simp
    generalize rwD r = RD at hr hlen ⊢
    have hd : binD .fdiv (.int r.length) (.int z) = .ok (.va (.int ((r.length : Int) / z))) := by
      simp [show 0 < z by omega, show z < 1073741824 by omega]
    generalize (r.length : Int) / z = q at hd ⊢
    generalize (r.length : Int) = rl at hd hlen
    generalize (plL t e).map D.int = PL
    generalize F.map D.int = FD
    simp [hr, hlen, hd]
  rw [ei, Rs.bind_ok]
  obtain ⟨sl', e', F', w8, w9', h9, hw8, vF', hF', es⟩ := forLoop_inv ((rg ((r.length : Int) / z)).map D.int) (body := fun d sl => (giveT (.one 9) d sl).bind fun sl => evSs T cf W cB sl)
    (I := fun i sl => ∃ (F' : List Int) (w8 w9' : Sl), Fr w9' ∧ (w8 = .va (rwD (r.drop (i * z.toNat))) ∨ w8 = .ow true (.lst ((r.drop (i * z.toNat)).map .int))) ∧ Vd t F' ∧ F'.length ≤ F.length + i * (z.toNat + 1) ∧ sl = [a0, a1, .va (.lst ((plL t e).map .int)), a3, .ow true (.lst RS), .va (.int z), .ow true (.lst (F'.map .int)), .va (.int k), w8, w9'])
    (sl := [a0, a1, .va (.lst ((plL t e).map .int)), a3, .ow true (.lst RS), .va (.int z), .ow true (.lst (F.map .int)), .va (.int k), .va (rwD r), w9])
    ⟨F, .va (rwD r), w9, hw9, .inl (by rw [Nat.zero_mul, List.drop_zero]), vF, by omega, rfl⟩ (fun i d sl hd ⟨F', w8, w9', h9, hw8, vF', hF', es⟩ => by
      have hi : i < ((r.length : Int) / z).toNat := by
        have := (List.getElem?_eq_some_iff.mp hd).1
        rwa [List.length_map, rg_len] at this
      obtain ⟨y, hy, rfl⟩ := get_map_int hd
      subst es
      have hb : F'.length ≤ 1017000 := by
        have : i * (z.toNat + 1) ≤ 1000 * 16 := Nat.mul_le_mul (by omega) (by omega)
        omega
      have g1 : binD .add (.lst (F'.map .int)) (.lst [.int x]) = .ok (.fr (.lst ((F' ++ [x]).map .int))) := add_map D.int (b := [x]) (by simp; omega)
      have g2 := cut_tm (r.drop (i * z.toNat)) (z := z) (by omega)
      have g3 : binD .add (.lst ((F' ++ [x]).map .int)) (.lst (((r.drop (i * z.toNat)).take z.toNat).map .int)) = _ := add_map D.int (by rw [List.length_take, List.length_append]; simp; omega)
      have g4 := cut_dm (r.drop (i * z.toNat)) (z := z) (by omega)
      rw [List.drop_drop, show i * z.toNat + z.toNat = (i + 1) * z.toNat by rw [Nat.succ_mul]] at g4
      have hst := cnt_step (T := T) (W := W) (cf := cf) (a0 := a0) (a1 := a1) (a3 := a3) (a4 := .ow true (.lst RS)) (a7 := .va (.int k)) (w9 := .va (.int y)) hx hw8 g1 g2 g3 g4
      refine ⟨[a0, a1, .va (.lst ((plL t e).map .int)), a3, .ow true (.lst RS), .va (.int z), .ow true (.lst ((F' ++ [x] ++ (r.drop (i * z.toNat)).take z.toNat).map .int)), .va (.int k), .ow true (.lst ((r.drop ((i + 1) * z.toNat)).map .int)), .va (.int y)], ?_, F' ++ [x] ++ (r.drop (i * z.toNat)).take z.toNat, .ow true (.lst ((r.drop ((i + 1) * z.toNat)).map .int)), .va (.int y), .inr ⟨_, rfl⟩, .inr rfl, (vF'.app (Vd.one rx)).app (vd_take (vd_drop v _) _), ?_, rfl⟩
      · rcases h9 with rfl | ⟨_, rfl⟩ <;> exact hst
      · rw [List.length_append, List.length_append, List.length_take, Nat.succ_mul]; simp; omega)
  rw [List.length_map, rg_len] at hw8 hF'
  refine ⟨F', r.drop (((r.length : Int) / z).toNat * z.toNat), w8, w9', h9, hw8, vF', ?_, vd_drop v _, ?_, by rw [List.length_drop]; omega, by rw [← es]; exact e'⟩
  · obtain ⟨zn, rfl⟩ : ∃ m : Nat, z = m := ⟨z.toNat, by omega⟩
    rw [Int.toNat_natCast] at hF'
    have e1 : ((r.length : Int) / (zn : Int)).toNat = r.length / zn := by rw [← Int.natCast_ediv, Int.toNat_natCast]
    rw [e1] at hF'
    have := Nat.div_mul_le_self r.length zn
    have q := Nat.div_le_self r.length zn
    have : r.length / zn * (zn + 1) = r.length / zn * zn + r.length / zn := by rw [Nat.mul_add, Nat.mul_one]
    omega
  · obtain ⟨zn, rfl⟩ : ∃ m : Nat, z = m := ⟨z.toNat, by omega⟩
    have e1 : ((r.length : Int) / (zn : Int)).toNat = r.length / zn := by rw [← Int.natCast_ediv, Int.toNat_natCast]
    rw [e1, Int.toNat_natCast, List.length_drop]
    have := Nat.div_add_mod r.length zn
    have m := Nat.mod_lt r.length (show 0 < zn by omega)
    rw [Nat.mul_comm] at this
    omega
end Wm

/-! R5a: a writer's told signs -/
namespace Wm
open PySem L2 Pf Pd
/-- by counts: told, the group, what is ahead -/
def wStep (e : Int) (z : Nat) (s : List Int × List Int × So) (x : Int) : List Int × List Int × So := if x = e then (s.1 ++ (sg e s.2.1.length :: s.2.1), [], .part) else if s.2.1.length + 1 = z then (s.1 ++ (sg e z :: (s.2.1 ++ [x])), [], .full) else (s.1, s.2.1 ++ [x], s.2.2)
def wRun (e : Int) (z : Nat) (row : List Int) : List Int × List Int × So := row.foldl (wStep e z) ([], [], .none)
def wCl (e : Int) (g : List Int) (a : So) : List Int := if g ≠ [] ∨ a ≠ .full then sg e g.length :: g else []
theorem wRun_snoc (e : Int) (z : Nat) (row : List Int) (x : Int) : wRun e z (row ++ [x]) = wStep e z (wRun e z row) x := List.foldl_append
theorem wStep_pre (e : Int) (z : Nat) (s : List Int × List Int × So) (x : Int) : s.1 <+: (wStep e z s x).1 := by
  unfold wStep
  split
  · exact List.prefix_append _ _
  · split
    · exact List.prefix_append _ _
    · exact List.prefix_refl _
theorem wRun_pre (e : Int) (z : Nat) (row : List Int) : ∀ c : List Int, (wRun e z row).1 <+: (wRun e z (row ++ c)).1 := by
  intro c
  induction c using Pf.rev_ind with
  | h0 => rw [List.append_nil]; exact List.prefix_refl _
  | hs r d ih =>
    rw [← List.append_assoc, wRun_snoc]
    exact ih.trans (wStep_pre e z _ d)
/-- the parts that are over -/
def cntF (e : Int) (z : Nat) (F : List (List Int)) : List Int := (F.map fun r => grp e z false (r.length + 1) r []).flatten
theorem cntF_snoc (e : Int) (z : Nat) (F : List (List Int)) (r : List Int) : cntF e z (F ++ [r]) = cntF e z F ++ grp e z false (r.length + 1) r [] := by
  unfold cntF; rw [List.map_append, List.flatten_append]; simp
theorem cntL_snoc (e : Int) (z : Nat) (L : List Int) : ∀ F : List (List Int), cntL e z (F ++ [L]) = cntF e z F ++ grp e z true (L.length + 1) L []
  | [] => by rw [List.nil_append, cntL_cons, cntL_nil]; simp [cntF]
  | r :: F => by
    have hi : (F ++ [L]).isEmpty = false := by cases F <;> rfl
    rw [List.cons_append, cntL_cons, hi, cntL_snoc e z L F]
    unfold cntF
    simp
theorem grp_blocks (e : Int) {z : Nat} (hz : 1 ≤ z) (last : Bool) (g : List Int) (hg : g.length < z) : ∀ (Bk : List (List Int)) (n : Nat) (found : List Int), (∀ b ∈ Bk, b.length = z) → (Bk.flatten ++ g).length < n →
    grp e z last n (Bk.flatten ++ g) found = found ++ (Bk.map fun b => sg e z :: b).flatten ++ (if g ≠ [] ∨ found ++ (Bk.map fun b => sg e z :: b).flatten = [] ∨ last = false then sg e g.length :: g else [])
  | [], 0, found, _, h => absurd h (Nat.not_lt_zero _)
  | [], n + 1, found, _, h => by
    unfold grp
    simp only [List.flatten_nil, List.nil_append, List.map_nil, List.append_nil]
    rw [if_neg (by omega)]
    by_cases c : g ≠ [] ∨ found = [] ∨ last = false
    · rw [if_pos c, if_pos c]
    · rw [if_neg c, if_neg c, List.append_nil]
  | b :: Bk, 0, found, _, h => absurd h (Nat.not_lt_zero _)
  | b :: Bk, n + 1, found, hb, h => by
    have hl : b.length = z := hb b List.mem_cons_self
    have e1 : (b :: Bk).flatten ++ g = b ++ (Bk.flatten ++ g) := by simp
    rw [e1] at h ⊢
    unfold grp
    rw [List.length_append] at h
    rw [if_pos (by rw [List.length_append]; omega)]
    have t1 : (b ++ (Bk.flatten ++ g)).drop z = Bk.flatten ++ g := by rw [← hl, List.drop_left]
    have t2 : (b ++ (Bk.flatten ++ g)).take z = b := by rw [← hl, List.take_left]
    rw [t1, t2, grp_blocks e hz last g hg Bk n _ (fun c hc => hb c (List.mem_cons_of_mem _ hc)) (by omega)]
    simp
theorem wRun_ok (e : Int) {z : Nat} (hz : 1 ≤ z) (row : List Int) : ∃ (F Bk : List (List Int)) (g : List Int), splF e row = (F, Bk.flatten ++ g) ∧ (∀ b ∈ Bk, b.length = z) ∧ g.length < z ∧ (wRun e z row).1 = cntF e z F ++ (Bk.map fun b => sg e z :: b).flatten ∧ (wRun e z row).2.1 = g ∧ ((wRun e z row).2.2 = .full ↔ Bk ≠ []) := by
  induction row using Pf.rev_ind with
  | h0 => exact ⟨[], [], [], rfl, fun b hb => absurd hb List.not_mem_nil, hz, rfl, rfl, by simp [wRun]⟩
  | hs r x ih =>
    obtain ⟨F, Bk, g, h1, h2, h3, h4, h5, h6⟩ := ih
    rw [splF_snoc, h1, wRun_snoc]
    unfold splS wStep
    by_cases c : x = e
    · rw [if_pos c, if_pos c]
      refine ⟨F ++ [Bk.flatten ++ g], [], [], rfl, fun b hb => absurd hb List.not_mem_nil, hz, ?_, rfl, by simp⟩
      rw [cntF_snoc, grp_blocks e hz false g h3 Bk _ [] h2 (Nat.lt_succ_self _)]
      dsimp only
      rw [h4, h5]
      simp
    · rw [if_neg c, if_neg c]
      by_cases d : (wRun e z r).2.1.length + 1 = z
      · rw [if_pos d]
        rw [h5] at d
        refine ⟨F, Bk ++ [g ++ [x]], [], by simp, fun b hb => ?_, hz, ?_, rfl, by simp⟩
        · rcases List.mem_append.mp hb with q | q
          · exact h2 b q
          · rw [List.mem_singleton.mp q, List.length_append]; exact d
        · dsimp only
          rw [h4, h5]
          simp
      · rw [if_neg d]
        rw [h5] at d
        refine ⟨F, Bk, g ++ [x], by simp, h2, by rw [List.length_append]; simp only [List.length_cons, List.length_nil]; omega, h4, by dsimp only; rw [h5], h6⟩
theorem cnt_wr (e : Int) {z : Nat} (hz : 1 ≤ z) (row : List Int) : cntL e z (splR e row) = (wRun e z row).1 ++ wCl e (wRun e z row).2.1 (wRun e z row).2.2 := by
  obtain ⟨F, Bk, g, h1, h2, h3, h4, h5, h6⟩ := wRun_ok e hz row
  unfold splR
  rw [h1]
  dsimp only
  rw [cntL_snoc, grp_blocks e hz true g h3 Bk _ [] h2 (Nat.lt_succ_self _), h4, h5]
  unfold wCl
  rw [List.nil_append, ← List.append_assoc]
  congr 1
  have hb : (Bk.map fun b => sg e z :: b).flatten = [] ↔ Bk = [] := by
    cases Bk <;> simp
  by_cases q : g ≠ [] ∨ (wRun e z row).2.2 ≠ .full
  · rw [if_pos q, if_pos]
    rcases q with q | q
    · exact .inl q
    · refine .inr (.inl (hb.mpr ?_))
      by_cases r : Bk = []
      · exact r
      · exact absurd (h6.mpr r) q
  · rw [if_neg q, if_neg]
    intro r
    rcases r with r | r | r
    · exact q (.inl r)
    · exact q (.inr fun w => (h6.mp w) (hb.mp r))
    · cases r
theorem wRun_g (e : Int) {z : Nat} (hz : 1 ≤ z) (row : List Int) : (wRun e z row).2.1.length < z := by
  obtain ⟨F, Bk, g, h1, h2, h3, h4, h5, h6⟩ := wRun_ok e hz row
  rw [h5]; exact h3
/-- what a writer has told behind a row -/
def toldW (p : Pl) (b : List Int) : List Int := match p.k with
  | .codes => (b.map (cdAt p)).flatten
  | .counts => (wRun p.e (p.l - 1).toNat (b.map (ex p.s))).1
  | .ranks => []
theorem toldW_pre {p : Pl} (h : PlOk p) (b c : List Int) : toldW p b <+: enc p (b ++ c) := by
  cases hk : p.k with
  | codes =>
    have e1 : enc p (b ++ c) = ((b ++ c).map (cdAt p)).flatten := by unfold enc; rw [hk]
    have e2 : toldW p b = (b.map (cdAt p)).flatten := by unfold toldW; rw [hk]
    rw [e1, e2, List.map_append, List.flatten_append]
    exact List.prefix_append _ _
  | counts =>
    have e1 : enc p (b ++ c) = cntL p.e (p.l - 1).toNat (splR p.e ((b ++ c).map (ex p.s))) := by unfold enc; rw [hk]
    have e2 : toldW p b = (wRun p.e (p.l - 1).toNat (b.map (ex p.s))).1 := by unfold toldW; rw [hk]
    obtain ⟨l0, l1⟩ := h.kn hk
    rw [e1, e2, cnt_wr p.e (by omega), List.map_append]
    exact (wRun_pre p.e _ _ _).trans (List.prefix_append _ _)
  | ranks =>
    have e2 : toldW p b = [] := by unfold toldW; rw [hk]
    rw [e2]
    exact List.nil_prefix
theorem get_behind (a b : List Int) : (a ++ b)[a.length]? = b[0]? := by
  rw [List.getElem?_append_right (Nat.le_refl _), Nat.sub_self]
theorem sg_ne {p : Pl} (h : Te p) {c : Int} : sg p.e c ≠ p.e := by
  unfold sg
  by_cases q : c < p.e
  · rw [if_pos q]; omega
  · rw [if_neg q]; omega
/-- by codes and by counts: with one sign more the frame goes on otherwise -/
theorem parts_cc {p : Pl} (h : PlOk p) (hk : p.k ≠ .ranks) {b : List Int} (v : Vd p.t b) : ∃ s : Int, 0 ≤ s ∧ s < p.t ∧ (enc p (b ++ [s]) ++ [p.e])[(toldW p b).length]? ≠ (enc p b ++ [p.e])[(toldW p b).length]? := by
  obtain ⟨t3, t16, h0, h1⟩ := h.toTe
  cases hq : p.k with
  | codes =>
    refine ⟨0, by omega, by omega, ?_⟩
    have e1 : enc p (b ++ [0]) = ((b ++ [0]).map (cdAt p)).flatten := by unfold enc; rw [hq]
    have e2 : toldW p b = (b.map (cdAt p)).flatten := by unfold toldW; rw [hq]
    have e3 : enc p b = (b.map (cdAt p)).flatten := by unfold enc; rw [hq]
    obtain ⟨_, hl, hc⟩ := h.kc hq
    obtain ⟨c1, c2, c3⟩ := hc (cdAt p 0) (List.mem_of_getElem? (cd_at (p := p) (x := 0) (by omega) (by omega)).2)
    rw [e1, e3, e2, List.map_append, List.flatten_append, List.append_assoc, get_behind, get_behind]
    cases hd : cdAt p 0 with
    | nil => rw [hd] at c1; simp at c1
    | cons x r =>
      have := (c3 x (by rw [hd]; exact List.mem_cons_self)).2.2
      simp [hd, this]
  | counts =>
    obtain ⟨l0, l1⟩ := h.kn hq
    have e2 : toldW p b = (wRun p.e (p.l - 1).toNat (b.map (ex p.s))).1 := by unfold toldW; rw [hq]
    have e1 : ∀ b : List Int, enc p b = cntL p.e (p.l - 1).toNat (splR p.e (b.map (ex p.s))) := fun b => by unfold enc; rw [hq]
    have hy := pn_sg (p := p) h.toTe (c := 0) (by omega) (by omega)
    have bkr := bk_range h.sp hy.1.1 hy.1.2
    refine ⟨bk p.s (sg p.e 0), bkr.1, bkr.2, ?_⟩
    have hz : 1 ≤ (p.l - 1).toNat := by omega
    have hlt := wRun_g p.e hz (b.map (ex p.s))
    rw [e1, e1, cnt_wr p.e hz, cnt_wr p.e hz, e2, List.map_append, List.map_cons, List.map_nil, ex_bk h.sp hy.1.1 hy.1.2, wRun_snoc]
    generalize wRun p.e (p.l - 1).toNat (b.map (ex p.s)) = s at hlt ⊢
    obtain ⟨t, g, a⟩ := s
    dsimp only at hlt ⊢
    have r1 : ((wStep p.e (p.l - 1).toNat (t, g, a) (sg p.e 0)).1 ++ wCl p.e (wStep p.e (p.l - 1).toNat (t, g, a) (sg p.e 0)).2.1 (wStep p.e (p.l - 1).toNat (t, g, a) (sg p.e 0)).2.2 ++ [p.e])[t.length]? = some (sg p.e ((g.length : Int) + 1)) := by
      unfold wStep
      rw [if_neg hy.2]
      dsimp only
      by_cases d : g.length + 1 = (p.l - 1).toNat
      · rw [if_pos d]
        dsimp only
        rw [List.append_assoc, List.append_assoc, get_behind, ← d]
        simp
      · rw [if_neg d]
        dsimp only
        rw [List.append_assoc, get_behind]
        unfold wCl
        rw [if_pos (.inl (by simp))]
        simp
    rw [r1, List.append_assoc, get_behind]
    unfold wCl
    by_cases q : g ≠ [] ∨ a ≠ .full
    · rw [if_pos q]
      intro w
      have : sg p.e ((g.length : Int) + 1) = sg p.e (g.length : Int) := by simpa using w
      have := sg_inj this
      omega
    · rw [if_neg q]
      intro w
      exact sg_ne h.toTe (c := (g.length : Int) + 1) (by simpa using w)
  | ranks => exact absurd hq hk
end Wm

/-! R6a: what is read is a body of which just that row is the frame -/
namespace Wm
open PySem L2 Pf Pd
theorem dec_len {p : Pl} {r b : List Int} (h : dec p r = some b) : b.length ≤ 60 := by
  unfold dec at h
  cases q : run p r (st0 p) [] with
  | none => rw [q] at h; cases h
  | some z =>
    rw [q] at h
    dsimp only at h
    cases q2 : lst p z.1 with
    | none => rw [q2] at h; cases h
    | some m =>
      rw [q2] at h
      dsimp only at h
      by_cases c : z.2.length + m.length ≤ 60
      · rw [if_pos c] at h
        have := Option.some.inj h
        rw [← this, List.length_append]; exact c
      · rw [if_neg c] at h; cases h
theorem run_step (p : Pl) (x : Int) (xs : List Int) (s : Wm.St) (T : List Int) {q : Wm.St × List Int} (h : run p (x :: xs) s T = some q) : ∃ s' told, stp p s x = some (s', told) ∧ run p xs s' (T ++ told) = some q := by
  rw [run_cons] at h
  cases e : stp p s x with
  | none => rw [e] at h; cases h
  | some z => rw [e] at h; exact ⟨z.1, z.2, rfl, h⟩
theorem cd_of {p : Pl} {c : List Int} (h : c ∈ p.c) : cdAt p ((p.c.idxOf c : Nat) : Int) = c := by
  unfold cdAt
  rw [Int.toNat_natCast, List.getD_eq_getElem?_getD, List.getElem?_eq_getElem (List.idxOf_lt_length_of_mem h), List.getElem_idxOf]
  rfl
theorem comp_codes {p : Pl} (h : PlOk p) (hk : p.k = .codes) : ∀ (xs s T : List Int) (s' : Wm.St) (T' : List Int), Vd p.t T → run p xs (.row s) T = some (s', T') → Vd p.t T' ∧ ∃ s2, s' = .row s2 ∧ (T'.map (cdAt p)).flatten ++ s2 = (T.map (cdAt p)).flatten ++ s ++ xs
  | [], s, T, s', T', v, e => by
    cases (show some (Wm.St.row s, T) = some (s', T') from e)
    exact ⟨v, s, rfl, by simp⟩
  | x :: xs, s, T, s', T', v, e => by
    obtain ⟨s1, told, e1, e2⟩ := run_step p x xs _ T e
    rw [stp_row, if_pos hk] at e1
    by_cases c1 : s ++ [x] ∈ p.c
    · rw [if_pos c1] at e1
      cases e1
      have hi : ((p.c.idxOf (s ++ [x]) : Nat) : Int) < p.t := by
        have := List.idxOf_lt_length_of_mem c1
        have := (h.kc hk).2.1
        omega
      obtain ⟨v', s2, q1, q2⟩ := comp_codes h hk xs [] (T ++ [((p.c.idxOf (s ++ [x]) : Nat) : Int)]) s' T' (v.app (Vd.one ⟨by omega, hi⟩)) e2
      refine ⟨v', s2, q1, ?_⟩
      rw [q2, List.map_append, List.flatten_append, List.map_cons, List.map_nil, cd_of c1]
      simp
    · rw [if_neg c1] at e1
      by_cases c2 : p.c.filter (fun o => decide (o.take (s.length + 1) = s ++ [x])) ≠ []
      · rw [if_pos c2] at e1
        cases e1
        rw [List.append_nil] at e2
        obtain ⟨v', s2, q1, q2⟩ := comp_codes h hk xs (s ++ [x]) T s' T' v e2
        refine ⟨v', s2, q1, ?_⟩
        rw [q2]
        simp
      · rw [if_neg c2] at e1; cases e1
/-- how a reader by counts stands behind a row -/
def RdOk (p : Pl) (z : Nat) (r : List Int) (T : List Int) : Wm.St → Prop
  | .row _ => False
  | .grp l so b => 0 ≤ l ∧ match so with
    | .none => l = 0 ∧ r = [] ∧ T = []
    | .full => (l = 0 ∧ r = (wRun p.e z (T.map (ex p.s))).1 ∧ (wRun p.e z (T.map (ex p.s))).2.1 = [] ∧ (wRun p.e z (T.map (ex p.s))).2.2 = .full) ∨ (0 < l ∧ r = (wRun p.e z (T.map (ex p.s))).1 ++ sg p.e z :: (wRun p.e z (T.map (ex p.s))).2.1 ∧ ((wRun p.e z (T.map (ex p.s))).2.1.length : Int) + l = z)
    | .part => r = (wRun p.e z (T.map (ex p.s))).1 ++ sg p.e (((wRun p.e z (T.map (ex p.s))).2.1.length : Int) + l) :: (wRun p.e z (T.map (ex p.s))).2.1 ∧ ((wRun p.e z (T.map (ex p.s))).2.1.length : Int) + l < z ∧ (b = true ↔ (((wRun p.e z (T.map (ex p.s))).2.1.length : Int) + l = 0 ∧ (wRun p.e z (T.map (ex p.s))).2.2 = .full))
theorem ex_one {p : Pl} (h : PlOk p) (T : List Int) {y : Int} (hy : 0 ≤ y ∧ y < p.t) : (T ++ [bk p.s y]).map (ex p.s) = T.map (ex p.s) ++ [y] := by
  rw [List.map_append, List.map_cons, List.map_nil, ex_bk h.sp hy.1 hy.2]
theorem rd_step {p : Pl} (h : PlOk p) {z : Nat} (hz : p.l = z + 1) (hz1 : 1 ≤ z) {r T : List Int} {s s' : Wm.St} {told : List Int} {x : Int} (hx : (0 ≤ x ∧ x < p.t) ∧ x ≠ p.e) (o : RdOk p z r T s) (e : stp p s x = some (s', told)) : RdOk p z (r ++ [x]) (T ++ told) s' := by
  obtain ⟨t3, t16, e0, e1⟩ := h.toTe
  cases s with
  | row _ => exact o.elim
  | grp l so b =>
    obtain ⟨l0, o⟩ := o
    rw [stp_grp] at e
    by_cases c : 0 < l
    · -- a sign of the group
      rw [if_pos c] at e
      cases e
      have hT := ex_one h T hx.1
      cases so with
      | none => exact absurd o.1 (by omega)
      | full =>
        rcases o with o | ⟨_, o1, o2⟩
        · exact absurd o.1 (by omega)
        · refine ⟨by omega, ?_⟩
          dsimp only
          rw [hT, wRun_snoc]
          generalize wRun p.e z (T.map (ex p.s)) = w at o1 o2 ⊢
          obtain ⟨t, g, a⟩ := w
          dsimp only at o1 o2
          unfold wStep
          rw [if_neg hx.2]
          by_cases d : g.length + 1 = z
          · rw [if_pos d]
            left
            refine ⟨by omega, ?_, rfl, rfl⟩
            dsimp only
            rw [o1]
            simp
          · rw [if_neg d]
            right
            refine ⟨by omega, ?_, ?_⟩
            · dsimp only
              rw [o1]
              simp
            · dsimp only
              rw [List.length_append]
              simp only [List.length_cons, List.length_nil]
              omega
      | part =>
        obtain ⟨o1, o2, o3⟩ := o
        refine ⟨by omega, ?_⟩
        dsimp only
        rw [hT, wRun_snoc]
        generalize wRun p.e z (T.map (ex p.s)) = w at o1 o2 o3 ⊢
        obtain ⟨t, g, a⟩ := w
        dsimp only at o1 o2 o3
        unfold wStep
        rw [if_neg hx.2, if_neg (by dsimp only; omega)]
        dsimp only
        have hl : (((g ++ [x]).length : Nat) : Int) + (l - 1) = (g.length : Int) + l := by
          rw [List.length_append]; simp only [List.length_cons, List.length_nil]; omega
        rw [hl]
        refine ⟨?_, o2, o3⟩
        rw [o1]
        simp
    · -- a count
      rw [if_neg c] at e
      have l1 : l = 0 := by omega
      subst l1
      have key : ∀ w : List Int × List Int × So, w = wRun p.e z ((T ++ (if so = .part then [bk p.s p.e] else [])).map (ex p.s)) → r = w.1 ∧ w.2.1 = [] ∧ (w.2.2 = .full ↔ so = .full) := fun w hw => by
        cases so with
        | none =>
          obtain ⟨_, o1, o2⟩ := o
          subst o2
          rw [if_neg (by decide), List.append_nil] at hw
          rw [hw, o1]
          exact ⟨rfl, rfl, by simp [wRun]⟩
        | full =>
          rcases o with ⟨_, o1, o2, o3⟩ | o
          · rw [if_neg (by decide), List.append_nil] at hw
            rw [hw]
            exact ⟨o1, o2, by simp [o3]⟩
          · exact absurd o.1 (by omega)
        | part =>
          obtain ⟨o1, o2, o3⟩ := o
          rw [if_pos rfl, ex_one h T ⟨e0, e1⟩, wRun_snoc] at hw
          generalize wRun p.e z (T.map (ex p.s)) = u at o1 hw
          obtain ⟨t, g, a⟩ := u
          unfold wStep at hw
          rw [if_pos rfl] at hw
          rw [hw]
          dsimp only at o1 ⊢
          refine ⟨by rw [o1]; simp, rfl, by simp⟩
      by_cases c1 : p.l < gs p.e x + 1
      · rw [if_pos c1] at e; cases e
      · rw [if_neg c1] at e
        obtain ⟨g0, g1⟩ := gs_range h.toTe hx
        have xs : sg p.e (gs p.e x) = x := sg_gs hx.2
        by_cases c2 : gs p.e x + 1 = p.l
        · rw [if_pos c2] at e
          cases e
          obtain ⟨k1, k2, k3⟩ := key _ rfl
          refine ⟨g0, .inr ⟨by omega, ?_, ?_⟩⟩
          · rw [k2, ← k1, ← xs, show gs p.e x = (z : Int) by omega]
          · rw [k2]
            simp only [List.length_nil]
            omega
        · rw [if_neg c2] at e
          cases e
          obtain ⟨k1, k2, k3⟩ := key _ rfl
          refine ⟨g0, ?_, ?_, ?_⟩
          · rw [k2, ← k1]
            simp only [List.length_nil]
            rw [show ((0 : Nat) : Int) + gs p.e x = gs p.e x by omega, xs]
          · rw [k2]
            simp only [List.length_nil]
            omega
          · rw [k2]
            simp only [List.length_nil, Bool.and_eq_true, decide_eq_true_eq, k3]
            constructor
            · rintro ⟨q1, q2⟩; exact ⟨by omega, q2⟩
            · rintro ⟨q1, q2⟩; exact ⟨by omega, q2⟩
theorem comp_counts {p : Pl} (h : PlOk p) {z : Nat} (hz : p.l = z + 1) (hz1 : 1 ≤ z) : ∀ (xs : List Int) (r T : List Int) (s s' : Wm.St) (T' : List Int), Pn p xs → RdOk p z r T s → Vd p.t T → run p xs s T = some (s', T') → RdOk p z (r ++ xs) T' s' ∧ Vd p.t T'
  | [], r, T, s, s', T', _, o, v, e => by
    cases (show some (s, T) = some (s', T') from e)
    exact ⟨by rw [List.append_nil]; exact o, v⟩
  | x :: xs, r, T, s, s', T', hp, o, v, e => by
    obtain ⟨s1, told, e1, e2⟩ := run_step p x xs _ T e
    have hx := hp x List.mem_cons_self
    have o1 := rd_step h hz hz1 hx o e1
    have vt : Vd p.t told := fun y hy => by
      cases s with
      | row _ => exact o.elim
      | grp l so b =>
        have hb : ∀ w : Int, (0 ≤ w ∧ w < p.t) → 0 ≤ bk p.s w ∧ bk p.s w < p.t := fun w hw => bk_range h.sp hw.1 hw.2
        have he : ∀ y ∈ (if so = .part then [bk p.s p.e] else [] : List Int), 0 ≤ y ∧ y < p.t := fun y hy => by
          by_cases q : so = .part
          · rw [if_pos q] at hy; rw [List.mem_singleton.mp hy]; exact hb _ ⟨h.e0, h.e1⟩
          · rw [if_neg q] at hy; cases hy
        rw [stp_grp] at e1
        by_cases c : 0 < l
        · rw [if_pos c] at e1; cases e1; rw [List.mem_singleton.mp hy]; exact hb _ hx.1
        · rw [if_neg c] at e1
          by_cases c1 : p.l < gs p.e x + 1
          · rw [if_pos c1] at e1; cases e1
          · rw [if_neg c1] at e1
            by_cases c2 : gs p.e x + 1 = p.l
            · rw [if_pos c2] at e1; cases e1; exact he y hy
            · rw [if_neg c2] at e1; cases e1; exact he y hy
    have := comp_counts h hz hz1 xs (r ++ [x]) (T ++ told) s1 s' T' (fun y hy => hp y (List.mem_cons_of_mem _ hy)) o1 (v.app vt) e2
    rw [List.append_assoc] at this
    exact this
/-- a row that is read is the frame of what is read -/
theorem enc_dec {p : Pl} (h : PlOk p) {r b : List Int} (hr : Pn p r) (e : dec p r = some b) : enc p b = r ∧ Vd p.t b ∧ b.length ≤ 60 := by
  have hl := dec_len e
  suffices q : enc p b = r ∧ Vd p.t b from ⟨q.1, q.2, hl⟩
  clear hl
  unfold dec at e
  cases q : run p r (st0 p) [] with
  | none => rw [q] at e; cases e
  | some w =>
    rw [q] at e
    obtain ⟨s, T⟩ := w
    dsimp only at e
    cases q2 : lst p s with
    | none => rw [q2] at e; cases e
    | some m =>
      rw [q2] at e
      dsimp only at e
      have eb : T ++ m = b := by
        by_cases c : T.length + m.length ≤ 60
        · rw [if_pos c] at e; exact Option.some.inj e
        · rw [if_neg c] at e; cases e
      subst eb
      cases hk : p.k with
      | codes =>
        have s0 : st0 p = .row [] := by unfold st0; rw [hk]; rfl
        rw [s0] at q
        obtain ⟨v, s2, q3, q4⟩ := comp_codes h hk r [] [] s T Vd.nil q
        subst q3
        rw [lst_row, if_pos hk] at q2
        by_cases c : s2 = []
        · rw [if_pos c] at q2
          cases q2
          subst c
          rw [List.append_nil]
          refine ⟨?_, v⟩
          have e1 : enc p T = (T.map (cdAt p)).flatten := by unfold enc; rw [hk]
          rw [e1]
          simpa using q4
        · rw [if_neg c] at q2; cases q2
      | counts =>
        have s0 : st0 p = .grp 0 .none false := by unfold st0; rw [if_pos hk]
        rw [s0] at q
        obtain ⟨l0, l1⟩ := h.kn hk
        have hz : p.l = ((p.l - 1).toNat : Nat) + 1 := by omega
        have o0 : RdOk p (p.l - 1).toNat [] [] (.grp 0 .none false) := ⟨Int.le_refl 0, rfl, rfl, rfl⟩
        obtain ⟨o, v⟩ := comp_counts h hz (by omega) r [] [] _ s T hr o0 Vd.nil q
        cases s with
        | row _ => exact o.elim
        | grp l so bb =>
          rw [lst_grp] at q2
          by_cases c : l = 0 ∧ so ≠ .none ∧ bb = false
          · rw [if_pos c] at q2
            cases q2
            rw [List.append_nil]
            refine ⟨?_, v⟩
            have e1 : enc p T = cntL p.e (p.l - 1).toNat (splR p.e (T.map (ex p.s))) := by unfold enc; rw [hk]
            rw [e1, cnt_wr p.e (by omega)]
            obtain ⟨_, o⟩ := o
            rw [List.nil_append] at o
            obtain ⟨c1, c2, c3⟩ := c
            subst c1 c3
            cases so with
            | none => exact absurd rfl c2
            | full =>
              rcases o with ⟨_, o1, o2, o3⟩ | o
              · unfold wCl
                rw [o2, o3, if_neg (by simp), List.append_nil]
                exact o1.symm
              · exact absurd o.1 (by omega)
            | part =>
              obtain ⟨o1, o2, o3⟩ := o
              rw [o1]
              unfold wCl
              rw [if_pos]
              · rw [Int.add_zero]
              · by_cases g0 : (wRun p.e (p.l - 1).toNat (T.map (ex p.s))).2.1 = []
                · right
                  intro a0
                  have := o3.mpr ⟨by rw [g0]; simp, a0⟩
                  cases this
                · exact .inl g0
          · rw [if_neg c] at q2; cases q2
      | ranks =>
        have s0 : st0 p = .row [] := by unfold st0; rw [hk]; rfl
        rw [s0, run_ranks hk] at q
        cases q
        rw [List.nil_append] at q2 ⊢
        rw [lst_row, hk, if_neg (by decide)] at q2
        cases q2
        have t3 := h.t3
        have vg := vd_gs h.toTe hr
        obtain ⟨w1, w2⟩ := rowOf_ok (m := p.t) (k := num (p.t - 1) (r.map (gs p.e))) (by omega) (num_nonneg (by omega) vg)
        have e1 : ∀ b : List Int, enc p b = (rowOf (p.t - 1) (num p.t (b.map (ex p.s)))).map (sg p.e) := fun b => by unfold enc; rw [hk]
        generalize rowOf p.t (num (p.t - 1) (r.map (gs p.e))) = y at w1 w2
        have eb : (y.map (bk p.s)).map (ex p.s) = y := by
          rw [List.map_map]
          conv => rhs; rw [← List.map_id y]
          exact List.map_congr_left fun a ha => ex_bk h.sp (w1 a ha).1 (w1 a ha).2
        refine ⟨?_, fun a ha => ?_⟩
        · rw [e1, eb, w2, rowOf_eq (by omega) vg rfl, List.map_map]
          conv => rhs; rw [← List.map_id r]
          exact List.map_congr_left fun a ha => sg_gs (hr a ha).2
        · obtain ⟨c, hc, rfl⟩ := List.mem_map.mp ha
          exact bk_range h.sp (w1 c hc).1 (w1 c hc).2
/-- a frame is no shorter than its body -/
theorem enc_long {p : Pl} (h : PlOk p) {b : List Int} (v : Vd p.t b) : b.length ≤ (enc p b).length := by
  obtain ⟨t3, t16, h0, h1⟩ := h.toTe
  cases hk : p.k with
  | codes =>
    have e1 : enc p b = (b.map (cdAt p)).flatten := by unfold enc; rw [hk]
    obtain ⟨_, hl, hc⟩ := h.kc hk
    rw [e1]
    have key : ∀ b : List Int, Vd p.t b → b.length ≤ ((b.map (cdAt p)).flatten).length := fun b => by
      induction b with
      | nil => intro _; simp
      | cons x b ih =>
        intro v
        have := ih fun y hy => v y (List.mem_cons_of_mem _ hy)
        have hx := v x List.mem_cons_self
        have := (hc (cdAt p x) (List.mem_of_getElem? (cd_at (p := p) hx.1 (by omega)).2)).1
        rw [List.map_cons, List.flatten_cons, List.length_append, List.length_cons]
        omega
    exact key b v
  | counts =>
    have e1 : enc p b = cntL p.e (p.l - 1).toNat (splR p.e (b.map (ex p.s))) := by unfold enc; rw [hk]
    obtain ⟨l0, l1⟩ := h.kn hk
    have key : ∀ row : List Int, row.length ≤ (wRun p.e (p.l - 1).toNat row).1.length + (wRun p.e (p.l - 1).toNat row).2.1.length := fun row => by
      induction row using Pf.rev_ind with
      | h0 => simp
      | hs r x ih =>
        rw [wRun_snoc]
        generalize wRun p.e (p.l - 1).toNat r = w at ih ⊢
        obtain ⟨t, g, a⟩ := w
        unfold wStep
        dsimp only at ih ⊢
        rw [List.length_append]
        simp only [List.length_cons, List.length_nil]
        split
        · simp; omega
        · split
          · simp; omega
          · simp; omega
    have k := key (b.map (ex p.s))
    rw [e1, cnt_wr p.e (by omega), List.length_append]
    rw [List.length_map] at k
    unfold wCl
    split
    · simp only [List.length_cons]; omega
    · rename_i q
      have : (wRun p.e (p.l - 1).toNat (b.map (ex p.s))).2.1 = [] := by
        by_cases d : (wRun p.e (p.l - 1).toNat (b.map (ex p.s))).2.1 = []
        · exact d
        · exact absurd (.inl d) q
      rw [this] at k
      simpa using k
  | ranks =>
    have e1 : enc p b = (rowOf (p.t - 1) (num p.t (b.map (ex p.s)))).map (sg p.e) := by unfold enc; rw [hk]
    have vx := vd_ex h v
    obtain ⟨w1, w2⟩ := rowOf_ok (m := p.t - 1) (k := num p.t (b.map (ex p.s))) (by omega) (num_nonneg (by omega) vx)
    have := len_base (show (1 : Int) ≤ p.t - 1 by omega) (show p.t - 1 ≤ p.t by omega) w1 vx w2
    rw [e1, List.length_map]
    rw [List.length_map] at this
    exact this
end Wm

namespace K13
open PySem L2 Pf Pd
def top (i : Nat) : Stmt := PySem.Challenge.pw_escaperow_k13_whole_rooms_and_bodies.main.body.getD i (.Pass ⟨0, 0, 0, 0⟩)
abbrev s_0 : Stmt := top 1
abbrev s_1 : Stmt := top 2
abbrev s_2 : Stmt := top 3
abbrev s_3 : Stmt := top 4
abbrev s_4 : Stmt := top 5
abbrev s_5 : Stmt := top 6
abbrev s_6 : Stmt := top 7
abbrev s_7 : Stmt := top 8
abbrev s_8 : Stmt := top 9
abbrev s_9 : Stmt := top 10
abbrev s_10 : Stmt := top 11
abbrev s_11 : Stmt := top 20
abbrev s_12 : Stmt := top 21
abbrev s_13 : Stmt := top 22
abbrev s_14 : Stmt := top 23
abbrev s_15 : Stmt := top 24
abbrev s_16 : Stmt := top 25
abbrev s_17 : Stmt := top 26
abbrev s_18 : Stmt := top 27
abbrev s_19 : Stmt := top 28
abbrev s_20 : Stmt := top 29
abbrev s_21 : Stmt := inClass (top 30) 0
abbrev s_22 : Stmt := inClass (top 30) 1
abbrev s_23 : Stmt := inClass (top 30) 2
abbrev s_24 : Stmt := inClass (top 30) 3
abbrev s_25 : Stmt := inClass (top 30) 4
abbrev s_30 : Stmt := top 32
abbrev s_31 : Stmt := top 33
abbrev s_32 : Stmt := top 34
abbrev s_33 : Stmt := top 35
abbrev s_50 : Stmt := top 37
abbrev s_51 : Stmt := top 38
abbrev s_52 : Stmt := top 39
abbrev s_53 : Stmt := top 40
abbrev s_54 : Stmt := top 41
abbrev s_55 : Stmt := top 42
abbrev s_56 : Stmt := top 43
abbrev s_57 : Stmt := top 44
abbrev s_58 : Stmt := top 45
abbrev s_59 : Stmt := top 46
abbrev s_60 : Stmt := top 47
abbrev s_62 : Stmt := top 48
abbrev s_63 : Stmt := top 49
abbrev s_72 : Stmt := top 50
abbrev s_80 : Stmt := top 51
def fields : List Str := ["kind", "top", "end", "limit", "signs", "codes", "plan", "waiting", "body", "group", "ahead", "told", "plain", "exchanged", "back", "put", "rest", "by_count", "over", "close"]
theorem fields_inj : ∀ f g, nameOf fields f = nameOf fields g → f = g := nameOf_inj (by decide +kernel) (by decide +kernel)
abbrev gx (P : Program) (w : World) (K : PySem.W.Frag) (ev : Ev) : Gx := ⟨K, ev.ca, nameOf fields, fields_inj, P, w⟩
/-- worst -/
def c_30_0 : PE := .lc [5] (.one 5) (.of (.fld (.var 2) 0 5)) .none (.bi .len (.cons (.var 5) .nil))
def b_30 : PSs := (.cons (.asg 2 (.make 0 21 (.cons (.var 0) .nil))) (.cons (.asg 3 (.ix (.meth (.var 2) 0 14 25 (.cons (.lst (.cons (.bin .sub (.fld (.var 2) 0 1) (.cI 1)) .nil)) .nil)) (.cI 0))) (.cons (.ite (.cmp .eq (.fld (.var 2) 0 0) (.cS "counts")) (.cons (.asg 3 (.ix (.meth (.var 2) 0 14 25 (.cons (.sl (.meth (.var 2) 0 12 23 .nil) .none (.some (.cI 1))) .nil)) (.cI 0))) .nil) (.nil)) (.cons (.ite (.cmp .eq (.fld (.var 2) 0 0) (.cS "codes")) (.cons (.asg 4 (c_30_0)) (.cons (.asg 3 (.bm .index (.var 4) (.cons (.bi .max1 (.cons (.var 4) .nil)) .nil))) .nil)) (.nil)) (.cons (.asg 6 (.bin .mul (.lst (.cons (.var 3) .nil)) (.var 1))) (.cons (.ret (.tup (.cons (.bin .add (.bi .len (.cons (.call 5 (.cons (.var 2) (.cons (.var 6) .nil))) .nil)) (.cI 1)) (.cons (.var 6) .nil)))) .nil))))))
def d_30 : PDef := ⟨2, [false, false], 7, true, b_30⟩
/-- gone_on -/
def w_31_0 : PS := .for (.one 5) (.of (.meth (.var 0) 0 12 23 .nil)) (.cons (.asg 6 (.call 9 (.cons (.var 0) (.cons (.var 3) (.cons (.var 5) .nil))))) (.cons (.ite (.notN (.var 6)) (.cons (.setkeyN 2 (.ix (.var 6) (.cI 0)) (.bin .add (.dgetN 2 (.ix (.var 6) (.cI 0)) (.cI 0)) (.var 4))) .nil) (.nil)) .nil))
def w_31_1 : PS := .for (.many [3, 4]) (.items (.var 1)) (.cons (w_31_0) .nil)
def b_31 : PSs := (.cons (.asg 2 (.dnewN)) (.cons (w_31_1) (.cons (.ret (.var 2)) .nil)))
def d_31 : PDef := ⟨2, [false, false], 7, true, b_31⟩
/-- frames_of -/
def c_32_0 : PE := .lc [5, 6] (.many [5, 6]) (.items (.var 3)) (.some (.notN (.call 10 (.cons (.var 2) (.cons (.var 5) .nil))))) (.var 6)
def w_32_0 : PS := .for (.one 4) (.rng1 (.bin .sub (.var 1) (.cI 1))) (.cons (.asg 3 (.call 31 (.cons (.var 2) (.cons (.var 3) .nil)))) .nil)
def b_32 : PSs := (.cons (.asg 2 (.make 0 21 (.cons (.var 0) .nil))) (.cons (.ite (.cmp .lt (.var 1) (.cI 1)) (.cons (.ret (.cI 0)) .nil) (.nil)) (.cons (.ite (.cmp .eq (.fld (.var 2) 0 0) (.cS "ranks")) (.cons (.ret (.call 33 (.cons (.bin .sub (.fld (.var 2) 0 1) (.cI 1)) (.cons (.bin .sub (.var 1) (.cI 1)) .nil)))) .nil) (.nil)) (.cons (.asg 3 (.ddispN (.call 6 (.cons (.var 2) .nil)) (.cI 1))) (.cons (w_32_0) (.cons (.ret (.bi .sum (.cons (c_32_0) .nil))) .nil))))))
def d_32 : PDef := ⟨2, [false, false], 7, true, b_32⟩
/-- power -/
def w_33_0 : PS := .for (.one 3) (.rng1 (.var 1)) (.cons (.asg 2 (.bin .mul (.var 2) (.var 0))) .nil)
def b_33 : PSs := (.cons (.asg 2 (.cI 1)) (.cons (w_33_0) (.cons (.ret (.var 2)) .nil)))
def d_33 : PDef := ⟨2, [false, false], 4, true, b_33⟩
/-- _law_power -/
def w_72_0 : PS := .for (.one 3) (.rng1 (.var 1)) (.cons (.asg 2 (.bin .mul (.var 2) (.var 0))) .nil)
def b_72 : PSs := (.cons (.asg 2 (.cI 1)) (.cons (w_72_0) (.cons (.ret (.var 2)) .nil)))
def d_72 : PDef := ⟨2, [false, false], 4, true, b_72⟩
/-- law -/
def c_80_0 : PE := .lc [9] (.one 9) (.rng1 (.bin .add (.var 6) (.cI 2))) .none (.call 32 (.cons (.var 3) (.cons (.var 9) .nil)))
def c_80_1 : PE := .lc [9] (.one 9) (.rng1 (.bin .add (.var 8) (.cI 1))) .none (.call 32 (.cons (.var 3) (.cons (.var 9) .nil)))
def c_80_2 : PE := .lc [11] (.one 11) (.rng1 (.bin .add (.var 6) (.cI 1))) .none (.call 72 (.cons (.var 4) (.cons (.var 11) .nil)))
def w_80_0 : PS := .for (.one 5) (.rng1 (.cI 3)) (.cons (.asg 9 (.bin .add (.cI 1) (.call 51 (.cons (.var 1) (.cons (.cI 60) .nil))))) (.cons (.asg 10 (.call 32 (.cons (.var 3) (.cons (.var 9) .nil)))) (.cons (.ite (.or (.cons (.not (.call 52 (.cons (.var 10) (.cons (.bi .int (.cons (.var 10) .nil)) .nil)))) (.cons (.not (.chain .le .le (.cI 0) (.var 10) (.call 72 (.cons (.bin .sub (.var 4) (.cI 1)) (.cons (.bin .sub (.var 9) (.cI 1)) .nil))))) .nil))) (.cons (.ret (.cB false)) .nil) (.nil)) (.cons (.ite (.and (.cons (.cmp .eq (.ix (.call 59 (.cons (.var 3) .nil)) (.cI 0)) (.cS "ranks")) (.cons (.cmp .ne (.var 10) (.call 72 (.cons (.bin .sub (.var 4) (.cI 1)) (.cons (.bin .sub (.var 9) (.cI 1)) .nil)))) .nil))) (.cons (.ret (.cB false)) .nil) (.nil)) .nil))))
def w_80_1 : PS := .for (.one 2) (.rng1 (.cI 2)) (.cons (.asg 3 (.call 63 (.cons (.var 1) .nil))) (.cons (.asg 4 (.call 60 (.cons (.var 3) .nil))) (.cons (w_80_0) (.cons (.asg 6 (.call 51 (.cons (.var 1) (.cons (.cI 15) .nil)))) (.cons (.asg 7 (.bi .sum (.cons (c_80_2) .nil))) (.cons (.asg 8 (.ix (.call 30 (.cons (.var 3) (.cons (.var 6) .nil))) (.cI 0))) (.cons (.ite (.cmp .lt (.bi .sum (.cons (c_80_1) .nil)) (.var 7)) (.cons (.ret (.cB false)) .nil) (.nil)) (.cons (.ite (.cmp .gt (.bi .sum (.cons (c_80_0) .nil)) (.var 7)) (.cons (.ret (.cB false)) .nil) (.nil)) .nil))))))))
def b_80 : PSs := (.cons (.asg 1 (.call 50 (.cons (.var 0) (.cons (.cI 0) .nil)))) (.cons (w_80_1) (.cons (.ret (.cB true)) .nil)))
def d_80 : PDef := ⟨1, [false], 12, true, b_80⟩
def T : Tab
  | 0 => some d_0
  | 1 => some d_1
  | 2 => some d_2
  | 3 => some d_3
  | 4 => some d_4
  | 5 => some d_5
  | 6 => some d_6
  | 7 => some d_7
  | 8 => some d_8
  | 9 => some d_9
  | 10 => some d_10
  | 11 => some d_11
  | 12 => some d_12
  | 13 => some d_13
  | 14 => some d_14
  | 15 => some d_15
  | 16 => some d_16
  | 17 => some d_17
  | 18 => some d_18
  | 19 => some d_19
  | 20 => some d_20
  | 21 => some d_21
  | 22 => some d_22
  | 23 => some d_23
  | 24 => some d_24
  | 25 => some d_25
  | 30 => some d_30
  | 31 => some d_31
  | 32 => some d_32
  | 33 => some d_33
  | 50 => some d_50
  | 51 => some d_51
  | 52 => some d_52
  | 53 => some d_53
  | 54 => some d_54
  | 55 => some d_55
  | 56 => some d_56
  | 57 => some d_57
  | 58 => some d_58
  | 59 => some d_59
  | 60 => some d_60
  | 62 => some d_62
  | 63 => some d_63
  | 72 => some d_72
  | 80 => some d_80
  | _ => none
def nms : Nat → List Str
  | 0 => ["row", "many"]
  | 1 => ["number", "many"]
  | 2 => ["row", "end"]
  | 3 => ["plan", "row", "is_last"]
  | 4 => ["plan", "row"]
  | 5 => ["plan", "body"]
  | 6 => ["plan"]
  | 7 => ["plan", "state", "sign"]
  | 8 => ["plan", "state", "sign"]
  | 9 => ["plan", "state", "sign"]
  | 10 => ["plan", "state"]
  | 11 => ["way"]
  | 12 => ["way"]
  | 13 => ["sign", "top", "end"]
  | 14 => ["signs", "top", "end"]
  | 15 => ["one", "other"]
  | 16 => ["codes", "top", "end"]
  | 17 => ["pairs", "top", "end", "mark"]
  | 18 => ["way"]
  | 19 => ["way"]
  | 20 => ["way"]
  | 21 => ["self", "way"]
  | 22 => ["self"]
  | 23 => ["self"]
  | 24 => ["self", "row"]
  | 25 => ["self", "row"]
  | 30 => ["way", "many"]
  | 31 => ["plan", "ways"]
  | 32 => ["way", "size"]
  | 33 => ["one", "times"]
  | 50 => ["_law_script", "_law_k"]
  | 51 => ["_law_d", "_law_most"]
  | 52 => ["_law_found", "_law_due"]
  | 53 => ["_law_d", "_law_row"]
  | 54 => ["_law_top_here", "_law_end"]
  | 55 => ["_law_d", "_law_top_here", "_law_end"]
  | 56 => ["_law_d", "_law_top_here", "_law_end"]
  | 57 => ["_law_d", "_law_top_here"]
  | 58 => ["_law_d", "_law_way_here", "_law_most"]
  | 59 => ["_law_way_here"]
  | 60 => ["_law_way_here"]
  | 62 => ["_law_d"]
  | 63 => ["_law_d"]
  | 72 => ["_law_one", "_law_times"]
  | 80 => ["_law_script"]
  | _ => []
/-- what the top has written -/
structure Txt (K : PySem.W.Frag) (mg : Str → Option Value) (ev : Ev) : Prop where
  F_0 : Fun K "row_number" "row_number" s_0 (ev.fa 0) (ev.fd 0)
  b_0 : Binds K (ev.fd 0) ["row", "many"] []
  m_0 : mg "row_number" = some (.ref (ev.fa 0))
  k_0 : PySem.W.keepIn K (.ref (ev.fa 0)) = true
  F_1 : Fun K "row_at" "row_at" s_1 (ev.fa 1) (ev.fd 1)
  b_1 : Binds K (ev.fd 1) ["number", "many"] []
  m_1 : mg "row_at" = some (.ref (ev.fa 1))
  k_1 : PySem.W.keepIn K (.ref (ev.fa 1)) = true
  F_2 : Fun K "split_rows" "split_rows" s_2 (ev.fa 2) (ev.fd 2)
  b_2 : Binds K (ev.fd 2) ["row", "end"] []
  m_2 : mg "split_rows" = some (.ref (ev.fa 2))
  k_2 : PySem.W.keepIn K (.ref (ev.fa 2)) = true
  F_3 : Fun K "grouped" "grouped" s_3 (ev.fa 3) (ev.fd 3)
  b_3 : Binds K (ev.fd 3) ["plan", "row", "is_last"] []
  m_3 : mg "grouped" = some (.ref (ev.fa 3))
  k_3 : PySem.W.keepIn K (.ref (ev.fa 3)) = true
  F_4 : Fun K "counted" "counted" s_4 (ev.fa 4) (ev.fd 4)
  b_4 : Binds K (ev.fd 4) ["plan", "row"] []
  m_4 : mg "counted" = some (.ref (ev.fa 4))
  k_4 : PySem.W.keepIn K (.ref (ev.fa 4)) = true
  F_5 : Fun K "coded" "coded" s_5 (ev.fa 5) (ev.fd 5)
  b_5 : Binds K (ev.fd 5) ["plan", "body"] []
  m_5 : mg "coded" = some (.ref (ev.fa 5))
  k_5 : PySem.W.keepIn K (.ref (ev.fa 5)) = true
  F_6 : Fun K "first_state" "first_state" s_6 (ev.fa 6) (ev.fd 6)
  b_6 : Binds K (ev.fd 6) ["plan"] []
  m_6 : mg "first_state" = some (.ref (ev.fa 6))
  k_6 : PySem.W.keepIn K (.ref (ev.fa 6)) = true
  F_7 : Fun K "code_step" "code_step" s_7 (ev.fa 7) (ev.fd 7)
  b_7 : Binds K (ev.fd 7) ["plan", "state", "sign"] []
  m_7 : mg "code_step" = some (.ref (ev.fa 7))
  k_7 : PySem.W.keepIn K (.ref (ev.fa 7)) = true
  F_8 : Fun K "count_step" "count_step" s_8 (ev.fa 8) (ev.fd 8)
  b_8 : Binds K (ev.fd 8) ["plan", "state", "sign"] []
  m_8 : mg "count_step" = some (.ref (ev.fa 8))
  k_8 : PySem.W.keepIn K (.ref (ev.fa 8)) = true
  F_9 : Fun K "step" "step" s_9 (ev.fa 9) (ev.fd 9)
  b_9 : Binds K (ev.fd 9) ["plan", "state", "sign"] []
  m_9 : mg "step" = some (.ref (ev.fa 9))
  k_9 : PySem.W.keepIn K (.ref (ev.fa 9)) = true
  F_10 : Fun K "last" "last" s_10 (ev.fa 10) (ev.fd 10)
  b_10 : Binds K (ev.fd 10) ["plan", "state"] []
  m_10 : mg "last" = some (.ref (ev.fa 10))
  k_10 : PySem.W.keepIn K (.ref (ev.fa 10)) = true
  F_11 : Fun K "core" "core" s_11 (ev.fa 11) (ev.fd 11)
  b_11 : Binds K (ev.fd 11) ["way"] []
  m_11 : mg "core" = some (.ref (ev.fa 11))
  k_11 : PySem.W.keepIn K (.ref (ev.fa 11)) = true
  F_12 : Fun K "turns" "turns" s_12 (ev.fa 12) (ev.fd 12)
  b_12 : Binds K (ev.fd 12) ["way"] []
  m_12 : mg "turns" = some (.ref (ev.fa 12))
  k_12 : PySem.W.keepIn K (.ref (ev.fa 12)) = true
  F_13 : Fun K "is_plain" "is_plain" s_13 (ev.fa 13) (ev.fd 13)
  b_13 : Binds K (ev.fd 13) ["sign", "top", "end"] []
  m_13 : mg "is_plain" = some (.ref (ev.fa 13))
  k_13 : PySem.W.keepIn K (.ref (ev.fa 13)) = true
  F_14 : Fun K "are_plain" "are_plain" s_14 (ev.fa 14) (ev.fd 14)
  b_14 : Binds K (ev.fd 14) ["signs", "top", "end"] []
  m_14 : mg "are_plain" = some (.ref (ev.fa 14))
  k_14 : PySem.W.keepIn K (.ref (ev.fa 14)) = true
  F_15 : Fun K "begins" "begins" s_15 (ev.fa 15) (ev.fd 15)
  b_15 : Binds K (ev.fd 15) ["one", "other"] []
  m_15 : mg "begins" = some (.ref (ev.fa 15))
  k_15 : PySem.W.keepIn K (.ref (ev.fa 15)) = true
  F_16 : Fun K "are_codes" "are_codes" s_16 (ev.fa 16) (ev.fd 16)
  b_16 : Binds K (ev.fd 16) ["codes", "top", "end"] []
  m_16 : mg "are_codes" = some (.ref (ev.fa 16))
  k_16 : PySem.W.keepIn K (.ref (ev.fa 16)) = true
  F_17 : Fun K "are_pairs" "are_pairs" s_17 (ev.fa 17) (ev.fd 17)
  b_17 : Binds K (ev.fd 17) ["pairs", "top", "end", "mark"] []
  m_17 : mg "are_pairs" = some (.ref (ev.fa 17))
  k_17 : PySem.W.keepIn K (.ref (ev.fa 17)) = true
  F_18 : Fun K "fault_of" "fault_of" s_18 (ev.fa 18) (ev.fd 18)
  b_18 : Binds K (ev.fd 18) ["way"] []
  m_18 : mg "fault_of" = some (.ref (ev.fa 18))
  k_18 : PySem.W.keepIn K (.ref (ev.fa 18)) = true
  F_19 : Fun K "need_way" "need_way" s_19 (ev.fa 19) (ev.fd 19)
  b_19 : Binds K (ev.fd 19) ["way"] []
  m_19 : mg "need_way" = some (.ref (ev.fa 19))
  k_19 : PySem.W.keepIn K (.ref (ev.fa 19)) = true
  F_20 : Fun K "escaped_codes" "escaped_codes" s_20 (ev.fa 20) (ev.fd 20)
  b_20 : Binds K (ev.fd 20) ["way"] []
  m_20 : mg "escaped_codes" = some (.ref (ev.fa 20))
  k_20 : PySem.W.keepIn K (.ref (ev.fa 20)) = true
  F_21 : Fun K "__init__" "Plan.__init__" s_21 (ev.fa 21) (ev.fd 21)
  b_21 : Binds K (ev.fd 21) ["self", "way"] []
  F_22 : Fun K "told" "Plan.told" s_22 (ev.fa 22) (ev.fd 22)
  b_22 : Binds K (ev.fd 22) ["self"] []
  F_23 : Fun K "plain" "Plan.plain" s_23 (ev.fa 23) (ev.fd 23)
  b_23 : Binds K (ev.fd 23) ["self"] []
  F_24 : Fun K "exchanged" "Plan.exchanged" s_24 (ev.fa 24) (ev.fd 24)
  b_24 : Binds K (ev.fd 24) ["self", "row"] []
  F_25 : Fun K "back" "Plan.back" s_25 (ev.fa 25) (ev.fd 25)
  b_25 : Binds K (ev.fd 25) ["self", "row"] []
  F_30 : Fun K "worst" "worst" s_30 (ev.fa 30) (ev.fd 30)
  b_30 : Binds K (ev.fd 30) ["way", "many"] []
  m_30 : mg "worst" = some (.ref (ev.fa 30))
  k_30 : PySem.W.keepIn K (.ref (ev.fa 30)) = true
  F_31 : Fun K "gone_on" "gone_on" s_31 (ev.fa 31) (ev.fd 31)
  b_31 : Binds K (ev.fd 31) ["plan", "ways"] []
  m_31 : mg "gone_on" = some (.ref (ev.fa 31))
  k_31 : PySem.W.keepIn K (.ref (ev.fa 31)) = true
  F_32 : Fun K "frames_of" "frames_of" s_32 (ev.fa 32) (ev.fd 32)
  b_32 : Binds K (ev.fd 32) ["way", "size"] []
  m_32 : mg "frames_of" = some (.ref (ev.fa 32))
  k_32 : PySem.W.keepIn K (.ref (ev.fa 32)) = true
  F_33 : Fun K "power" "power" s_33 (ev.fa 33) (ev.fd 33)
  b_33 : Binds K (ev.fd 33) ["one", "times"] []
  m_33 : mg "power" = some (.ref (ev.fa 33))
  k_33 : PySem.W.keepIn K (.ref (ev.fa 33)) = true
  F_50 : Fun K "_law_dice" "_law_dice" s_50 (ev.fa 50) (ev.fd 50)
  b_50 : Binds K (ev.fd 50) ["_law_script", "_law_k"] []
  m_50 : mg "_law_dice" = some (.ref (ev.fa 50))
  k_50 : PySem.W.keepIn K (.ref (ev.fa 50)) = true
  F_51 : Fun K "_law_off" "_law_off" s_51 (ev.fa 51) (ev.fd 51)
  b_51 : Binds K (ev.fd 51) ["_law_d", "_law_most"] []
  m_51 : mg "_law_off" = some (.ref (ev.fa 51))
  k_51 : PySem.W.keepIn K (.ref (ev.fa 51)) = true
  F_52 : Fun K "_law_alike" "_law_alike" s_52 (ev.fa 52) (ev.fd 52)
  b_52 : Binds K (ev.fd 52) ["_law_found", "_law_due"] []
  m_52 : mg "_law_alike" = some (.ref (ev.fa 52))
  k_52 : PySem.W.keepIn K (.ref (ev.fa 52)) = true
  F_53 : Fun K "_law_mixed" "_law_mixed" s_53 (ev.fa 53) (ev.fd 53)
  b_53 : Binds K (ev.fd 53) ["_law_d", "_law_row"] []
  m_53 : mg "_law_mixed" = some (.ref (ev.fa 53))
  k_53 : PySem.W.keepIn K (.ref (ev.fa 53)) = true
  F_54 : Fun K "_law_plain" "_law_plain" s_54 (ev.fa 54) (ev.fd 54)
  b_54 : Binds K (ev.fd 54) ["_law_top_here", "_law_end"] []
  m_54 : mg "_law_plain" = some (.ref (ev.fa 54))
  k_54 : PySem.W.keepIn K (.ref (ev.fa 54)) = true
  F_55 : Fun K "_law_codes" "_law_codes" s_55 (ev.fa 55) (ev.fd 55)
  b_55 : Binds K (ev.fd 55) ["_law_d", "_law_top_here", "_law_end"] []
  m_55 : mg "_law_codes" = some (.ref (ev.fa 55))
  k_55 : PySem.W.keepIn K (.ref (ev.fa 55)) = true
  F_56 : Fun K "_law_escapes" "_law_escapes" s_56 (ev.fa 56) (ev.fd 56)
  b_56 : Binds K (ev.fd 56) ["_law_d", "_law_top_here", "_law_end"] []
  m_56 : mg "_law_escapes" = some (.ref (ev.fa 56))
  k_56 : PySem.W.keepIn K (.ref (ev.fa 56)) = true
  F_57 : Fun K "_law_base" "_law_base" s_57 (ev.fa 57) (ev.fd 57)
  b_57 : Binds K (ev.fd 57) ["_law_d", "_law_top_here"] []
  m_57 : mg "_law_base" = some (.ref (ev.fa 57))
  k_57 : PySem.W.keepIn K (.ref (ev.fa 57)) = true
  F_58 : Fun K "_law_turned" "_law_turned" s_58 (ev.fa 58) (ev.fd 58)
  b_58 : Binds K (ev.fd 58) ["_law_d", "_law_way_here", "_law_most"] []
  m_58 : mg "_law_turned" = some (.ref (ev.fa 58))
  k_58 : PySem.W.keepIn K (.ref (ev.fa 58)) = true
  F_59 : Fun K "_law_core" "_law_core" s_59 (ev.fa 59) (ev.fd 59)
  b_59 : Binds K (ev.fd 59) ["_law_way_here"] []
  m_59 : mg "_law_core" = some (.ref (ev.fa 59))
  k_59 : PySem.W.keepIn K (.ref (ev.fa 59)) = true
  F_60 : Fun K "_law_top" "_law_top" s_60 (ev.fa 60) (ev.fd 60)
  b_60 : Binds K (ev.fd 60) ["_law_way_here"] []
  m_60 : mg "_law_top" = some (.ref (ev.fa 60))
  k_60 : PySem.W.keepIn K (.ref (ev.fa 60)) = true
  F_62 : Fun K "_law_size" "_law_size" s_62 (ev.fa 62) (ev.fd 62)
  b_62 : Binds K (ev.fd 62) ["_law_d"] []
  m_62 : mg "_law_size" = some (.ref (ev.fa 62))
  k_62 : PySem.W.keepIn K (.ref (ev.fa 62)) = true
  F_63 : Fun K "_law_way" "_law_way" s_63 (ev.fa 63) (ev.fd 63)
  b_63 : Binds K (ev.fd 63) ["_law_d"] []
  m_63 : mg "_law_way" = some (.ref (ev.fa 63))
  k_63 : PySem.W.keepIn K (.ref (ev.fa 63)) = true
  F_72 : Fun K "_law_power" "_law_power" s_72 (ev.fa 72) (ev.fd 72)
  b_72 : Binds K (ev.fd 72) ["_law_one", "_law_times"] []
  m_72 : mg "_law_power" = some (.ref (ev.fa 72))
  k_72 : PySem.W.keepIn K (.ref (ev.fa 72)) = true
  F_80 : Fun K "law" "law" s_80 (ev.fa 80) (ev.fd 80)
  b_80 : Binds K (ev.fd 80) ["_law_script"] []
  m_80 : mg "law" = some (.ref (ev.fa 80))
  k_80 : PySem.W.keepIn K (.ref (ev.fa 80)) = true
  cl0 : Cls K (ev.ca 0)
  mc0 : mg "Plan" = some (.ref (ev.ca 0))
  mk0 : Mk K (ev.ca 0) (ev.fa 21)
  na0_codes : NoAttr K (ev.ca 0) "codes"
  na0_end : NoAttr K (ev.ca 0) "end"
  na0_kind : NoAttr K (ev.ca 0) "kind"
  na0_limit : NoAttr K (ev.ca 0) "limit"
  na0_signs : NoAttr K (ev.ca 0) "signs"
  na0_top : NoAttr K (ev.ca 0) "top"
  mt0_back : Meth K (ev.ca 0) "back" (ev.fa 25)
  mt0_exchanged : Meth K (ev.ca 0) "exchanged" (ev.fa 24)
  mt0_plain : Meth K (ev.ca 0) "plain" (ev.fa 23)
  n_abs : mg "abs" = none
  n_all : mg "all" = none
  n_bool : mg "bool" = none
  n_enumerate : mg "enumerate" = none
  n_int : mg "int" = none
  n_isinstance : mg "isinstance" = none
  n_len : mg "len" = none
  n_list : mg "list" = none
  n_max : mg "max" = none
  n_range : mg "range" = none
  n_reversed : mg "reversed" = none
  n_set : mg "set" = none
  n_sorted : mg "sorted" = none
  n_str : mg "str" = none
  n_sum : mg "sum" = none
  n_tuple : mg "tuple" = none
  c_LEAST_TOP : ∃ t, mg "LEAST_TOP" = some (.int 3 t)
  c_MOST_CODE : ∃ t, mg "MOST_CODE" = some (.int 4 t)
  c_MOST_TOP : ∃ t, mg "MOST_TOP" = some (.int 16 t)
  c_MOST_TURNS : ∃ t, mg "MOST_TURNS" = some (.int 3 t)
def wf : Nat := 100000
/-- defs that are told by hand -/
def pr : Nat → CF := fun _ f as => if f = 2 then splCF as else .stuck
def Lv (P : Program) (w : World) (K : PySem.W.Frag) (mg : Str → Option Value) (base : Heap) (ev : Ev) (n : Nat) : Prop := ∀ f d, T f = some d → FnOk P w K mg base CX0 (2 * n + 2) (ev.fa f) (ev.fd f) (nms f) (spI (gx P w K ev) (evF T pr wf n) (ioOf T f) f)
section
variable {P : Program} {w : World} {K : PySem.W.Frag} {mg : Str → Option Value} {base : Heap} {ev : Ev} {n : Nat}
theorem sc_0 : FnScope ["row", "many", "number", "sign"] ["row", "many"] (defScope s_0) := ⟨rfl, rfl, rfl, by decide +kernel, rfl, by decide +kernel, by decide +kernel⟩
theorem ok_0 (Z : Txt K mg ev) (L : Lv P w K mg base ev n) : FnOk P w K mg base CX0 (2 * (n + 1) + 2) (ev.fa 0) (ev.fd 0) (nms 0) (spI (gx P w K ev) (evF T pr wf (n + 1)) (ioOf T 0) 0) := by
  refine fn_go (k := 2 * n + 3) (d := d_0) rfl rfl Z.F_0 sc_0 rfl rfl fun cdv A outer s H E hr => ?_
  have hu := Room.u65 hr
  have hu4 := hr.units
  have hr1 : Room (2 * n + 2) _ := hr.mono (Nat.le_succ _)
  have hN := (sc_0).nd
  exact (rss_cons (rs_asg 2 hN (re_int)) (rss_cons (rs_for PassesOwn.never rfl (ri_of (re_var 0)) (rg_one 3 hN) (rss_cons (rs_asg 2 hN (re_bin .add (re_bin .add (re_bin .mul (re_var 2) (re_var 1)) (re_var 3)) (re_int))) (rss_nil))) (rss_cons (rs_ret (re_var 2)) (rss_nil))))
theorem sc_1 : FnScope ["number", "many", "row"] ["number", "many"] (defScope s_1) := ⟨rfl, rfl, rfl, by decide +kernel, rfl, by decide +kernel, by decide +kernel⟩
theorem ok_1 (Z : Txt K mg ev) (L : Lv P w K mg base ev n) : FnOk P w K mg base CX0 (2 * (n + 1) + 2) (ev.fa 1) (ev.fd 1) (nms 1) (spI (gx P w K ev) (evF T pr wf (n + 1)) (ioOf T 1) 1) := by
  refine fn_go (k := 2 * n + 3) (d := d_1) rfl rfl Z.F_1 sc_1 rfl rfl fun cdv A outer s H E hr => ?_
  have hu := Room.u65 hr
  have hu4 := hr.units
  have hr1 : Room (2 * n + 2) _ := hr.mono (Nat.le_succ _)
  have hN := (sc_1).nd
  exact (rss_cons (rs_asg 2 hN (re_lst (ra_nil))) (rss_cons (rs_whl PassesOwn.never (rt_cmp .gt (re_var 0) (re_int) hu) (rss_cons (rs_augSub 0 hN (re_int)) (rss_cons (rs_ex (re_bm .append PySem.F.slot_list_append PySem.F.type_list_append hu4 (re_var 2) (ra_cons (re_bin .mod (re_var 0) (re_var 1)) (ra_nil)))) (rss_cons (rs_asg 0 hN (re_bin .fdiv (re_var 0) (re_var 1))) (rss_nil))))) (rss_cons (rs_ret (re_listRev rfl rfl Z.n_list rfl Z.n_reversed (re_var 2))) (rss_nil))))
theorem sc_2 : FnScope ["row", "end", "rows", "sign"] ["row", "end"] (defScope s_2) := ⟨rfl, rfl, rfl, by decide +kernel, rfl, by decide +kernel, by decide +kernel⟩
theorem ok_2 (Z : Txt K mg ev) (L : Lv P w K mg base ev n) : FnOk P w K mg base CX0 (2 * (n + 1) + 2) (ev.fa 2) (ev.fd 2) (nms 2) (spI (gx P w K ev) (evF T pr wf (n + 1)) (ioOf T 2) 2) := by
  refine fn_split (k := 2 * n + 3) rfl (fun as => rfl) rfl Z.F_2 sc_2 rfl rfl fun cdv A outer s H E hr => ?_
  have hu := Room.u65 hr
  have hu4 := hr.units
  have hN := (sc_2).nd
  exact pss_cons (ps_set hN rfl (by first | exact Or.inl rfl | exact Or.inr rfl) (pe_lst (pa_cons (pe_lst pa_nil) pa_nil))) (pss_cons (ps_for PassesOwn.never rfl (pi_seq (pe_var rfl (by first | exact Or.inl rfl | exact Or.inr (Or.inl rfl) | exact Or.inr (Or.inr rfl)))) (pg_name hN rfl (by first | exact Or.inl rfl | exact Or.inr rfl))
    (pss_cons (ps_if (rt_cmp .eq (re_var 3) (re_var 1) hu)
      (pss_cons (ps_expr (pe_bm PySem.F.plainAttrs_list PySem.F.slot_list_append PySem.F.type_list_append (mtBm hu4 .append) (pe_var rfl (by first | exact Or.inl rfl | exact Or.inr (Or.inl rfl) | exact Or.inr (Or.inr rfl))) (pa_cons (pe_lst pa_nil) pa_nil))) pss_nil)
      (pss_cons (ps_expr (pe_bm PySem.F.plainAttrs_list PySem.F.slot_list_append PySem.F.type_list_append (mtBm hu4 .append) (pe_ix ix_list (pe_var rfl (by first | exact Or.inl rfl | exact Or.inr (Or.inl rfl) | exact Or.inr (Or.inr rfl))) (pe_un un_neg pe_int) (by intro _ _; rfl)) (pa_cons (pe_var rfl (by first | exact Or.inl rfl | exact Or.inr (Or.inl rfl) | exact Or.inr (Or.inr rfl))) pa_nil))) pss_nil)) pss_nil))
    (pss_cons (ps_ret (pe_var rfl (by first | exact Or.inl rfl | exact Or.inr (Or.inl rfl) | exact Or.inr (Or.inr rfl)))) pss_nil))
theorem sc_3 : FnScope ["plan", "row", "is_last", "plain", "size", "found"] ["plan", "row", "is_last"] (defScope s_3) := ⟨rfl, rfl, rfl, by decide +kernel, rfl, by decide +kernel, by decide +kernel⟩
theorem ok_3 (Z : Txt K mg ev) (L : Lv P w K mg base ev n) : FnOk P w K mg base CX0 (2 * (n + 1) + 2) (ev.fa 3) (ev.fd 3) (nms 3) (spI (gx P w K ev) (evF T pr wf (n + 1)) (ioOf T 3) 3) := by
  refine fn_go (k := 2 * n + 3) (d := d_3) rfl rfl Z.F_3 sc_3 rfl rfl fun cdv A outer s H E hr => ?_
  have hu := Room.u65 hr
  have hu4 := hr.units
  have hr1 : Room (2 * n + 2) _ := hr.mono (Nat.le_succ _)
  have hN := (sc_3).nd
  exact (rss_cons (rs_asg 3 hN (re_meth0 (ci := 0) (mi := 12) rfl (re_var 0) Z.cl0 Z.mt0_plain (L 23 _ rfl) hr1 Z.b_23)) (rss_cons (rs_asg 4 hN (re_bin .sub (re_fld (ci := 0) (f := 3) (re_var 0) Z.cl0 Z.na0_limit rfl) (re_int))) (rss_cons (rs_asg 5 hN (re_lst (ra_nil))) (rss_cons (rs_whl PassesOwn.never (rt_cmp .ge (re_biB .len rfl rfl rfl Z.n_len rfl (ra_cons (re_var 1) (ra_nil)) bt_len) (re_var 4) hu) (rss_cons (rs_ex (re_bm .extend PySem.F.slot_list_extend PySem.F.type_list_extend hu4 (re_var 5) (ra_cons (re_bin .add (re_lst (ra_cons (re_ix (re_var 3) (re_var 4)) (ra_nil))) (re_sl (re_var 1) ro_none (ro_some (re_var 4)))) (ra_nil)))) (rss_cons (rs_asg 1 hN (re_sl (re_var 1) (ro_some (re_var 4)) ro_none)) (rss_nil)))) (rss_cons (rs_ite (L2.PW.pt (rt_or (rt_cmp .ne (re_var 1) (re_lst (ra_nil)) hu) (rt_or (rt_cmp .eq (re_var 5) (re_lst (ra_nil)) hu) (rt_or1 (rt_not (rt_val (re_var 2))))))) (rss_cons (rs_ex (re_bm .extend PySem.F.slot_list_extend PySem.F.type_list_extend hu4 (re_var 5) (ra_cons (re_bin .add (re_lst (ra_cons (re_ix (re_var 3) (re_biB .len rfl rfl rfl Z.n_len rfl (ra_cons (re_var 1) (ra_nil)) bt_len)) (ra_nil))) (re_var 1)) (ra_nil)))) (rss_nil)) (rss_nil)) (rss_cons (rs_ret (re_var 5)) (rss_nil)))))))
theorem sc_4 : FnScope ["plan", "row", "rows", "found", "at", "part"] ["plan", "row"] (defScope s_4) := ⟨rfl, rfl, rfl, by decide +kernel, rfl, by decide +kernel, by decide +kernel⟩
theorem ok_4 (Z : Txt K mg ev) (L : Lv P w K mg base ev n) : FnOk P w K mg base CX0 (2 * (n + 1) + 2) (ev.fa 4) (ev.fd 4) (nms 4) (spI (gx P w K ev) (evF T pr wf (n + 1)) (ioOf T 4) 4) := by
  refine fn_go (k := 2 * n + 3) (d := d_4) rfl rfl Z.F_4 sc_4 rfl rfl fun cdv A outer s H E hr => ?_
  have hu := Room.u65 hr
  have hu4 := hr.units
  have hr1 : Room (2 * n + 2) _ := hr.mono (Nat.le_succ _)
  have hN := (sc_4).nd
  exact (rss_cons (rs_asg 2 hN (re_call (L 2 _ rfl) hr1 rfl Z.m_2 Z.k_2 Z.b_2 (ra_cons (re_var 1) (ra_cons (re_fld (ci := 0) (f := 2) (re_var 0) Z.cl0 Z.na0_end rfl) (ra_nil))))) (rss_cons (rs_asg 3 hN (re_lst (ra_nil))) (rss_cons (rs_for PassesOwn.never rfl (ri_enum (re_var 2) rfl Z.n_enumerate) (rg_many (is := [4, 5]) rfl (rgs_cons 4 hN (rgs_cons 5 hN (rgs_nil)))) (rss_cons (rs_ex (re_bm .extend PySem.F.slot_list_extend PySem.F.type_list_extend hu4 (re_var 3) (ra_cons (re_call (L 3 _ rfl) hr1 rfl Z.m_3 Z.k_3 Z.b_3 (ra_cons (re_var 0) (ra_cons (re_var 5) (ra_cons (re_cmp .eq (re_var 4) (re_bin .sub (re_biB .len rfl rfl rfl Z.n_len rfl (ra_cons (re_var 2) (ra_nil)) bt_len) (re_int)) hu) (ra_nil))))) (ra_nil)))) (rss_nil))) (rss_cons (rs_ret (re_var 3)) (rss_nil)))))
theorem sc_5 : FnScope ["plan", "body", "found", "sign", "row", "plain", "at"] ["plan", "body"] (defScope s_5) := ⟨rfl, rfl, rfl, by decide +kernel, rfl, by decide +kernel, by decide +kernel⟩
theorem ok_5 (Z : Txt K mg ev) (L : Lv P w K mg base ev n) : FnOk P w K mg base CX0 (2 * (n + 1) + 2) (ev.fa 5) (ev.fd 5) (nms 5) (spI (gx P w K ev) (evF T pr wf (n + 1)) (ioOf T 5) 5) := by
  refine fn_go (k := 2 * n + 3) (d := d_5) rfl rfl Z.F_5 sc_5 rfl rfl fun cdv A outer s H E hr => ?_
  have hu := Room.u65 hr
  have hu4 := hr.units
  have hr1 : Room (2 * n + 2) _ := hr.mono (Nat.le_succ _)
  have hN := (sc_5).nd
  exact (rss_cons (rs_ite (rt_cmp .eq (re_fld (ci := 0) (f := 0) (re_var 0) Z.cl0 Z.na0_kind rfl) (re_str) hu) (rss_cons (rs_asg 2 hN (re_lst (ra_nil))) (rss_cons (rs_for PassesOwn.never rfl (ri_of (re_var 1)) (rg_one 3 hN) (rss_cons (rs_ex (re_bm .extend PySem.F.slot_list_extend PySem.F.type_list_extend hu4 (re_var 2) (ra_cons (re_ix (re_fld (ci := 0) (f := 5) (re_var 0) Z.cl0 Z.na0_codes rfl) (re_var 3)) (ra_nil)))) (rss_nil))) (rss_cons (rs_ret (re_var 2)) (rss_nil)))) (rss_nil)) (rss_cons (rs_asg 4 hN (re_meth (ci := 0) (mi := 13) rfl (re_var 0) Z.cl0 Z.mt0_exchanged (L 24 _ rfl) hr1 Z.b_24 (ra_cons (re_var 1) (ra_nil)))) (rss_cons (rs_ite (rt_cmp .eq (re_fld (ci := 0) (f := 0) (re_var 0) Z.cl0 Z.na0_kind rfl) (re_str) hu) (rss_cons (rs_ret (re_call (L 4 _ rfl) hr1 rfl Z.m_4 Z.k_4 Z.b_4 (ra_cons (re_var 0) (ra_cons (re_var 4) (ra_nil))))) (rss_nil)) (rss_nil)) (rss_cons (rs_asg 5 hN (re_meth0 (ci := 0) (mi := 12) rfl (re_var 0) Z.cl0 Z.mt0_plain (L 23 _ rfl) hr1 Z.b_23)) (rss_cons (rs_ret (re_lc [("at", 6)] rfl hN (ri_of (re_call (L 1 _ rfl) hr1 rfl Z.m_1 Z.k_1 Z.b_1 (ra_cons (re_call (L 0 _ rfl) hr1 rfl Z.m_0 Z.k_0 Z.b_0 (ra_cons (re_var 4) (ra_cons (re_fld (ci := 0) (f := 1) (re_var 0) Z.cl0 Z.na0_top rfl) (ra_nil)))) (ra_cons (re_bin .sub (re_fld (ci := 0) (f := 1) (re_var 0) Z.cl0 Z.na0_top rfl) (re_int)) (ra_nil))))) (show blkC ["plan", "body", "found", "sign", "row", "plain", "at"] (defScope s_5) _ [("at", 6)] = true by decide +kernel) (fun _ _ _ _ _ => (rg_one 6 hN)) (fun _ _ _ _ _ => rc_none) (fun _ _ _ _ _ => (re_ix (re_var 5) (re_var 6))) (by decide))) (rss_nil))))))
theorem sc_6 : FnScope ["plan"] ["plan"] (defScope s_6) := ⟨rfl, rfl, rfl, by decide +kernel, rfl, by decide +kernel, by decide +kernel⟩
theorem ok_6 (Z : Txt K mg ev) (L : Lv P w K mg base ev n) : FnOk P w K mg base CX0 (2 * (n + 1) + 2) (ev.fa 6) (ev.fd 6) (nms 6) (spI (gx P w K ev) (evF T pr wf (n + 1)) (ioOf T 6) 6) := by
  refine fn_go (k := 2 * n + 3) (d := d_6) rfl rfl Z.F_6 sc_6 rfl rfl fun cdv A outer s H E hr => ?_
  have hu := Room.u65 hr
  have hu4 := hr.units
  have hr1 : Room (2 * n + 2) _ := hr.mono (Nat.le_succ _)
  have hN := (sc_6).nd
  exact (rss_cons (rs_ite (rt_cmp .eq (re_fld (ci := 0) (f := 0) (re_var 0) Z.cl0 Z.na0_kind rfl) (re_str) hu) (rss_cons (rs_ret (re_tup (ra_cons (re_int) (ra_cons (re_str) (ra_cons (re_bl) (ra_nil)))))) (rss_nil)) (rss_nil)) (rss_cons (rs_ret (re_tup (ra_nil))) (rss_nil)))
theorem sc_7 : FnScope ["plan", "state", "sign", "code", "other"] ["plan", "state", "sign"] (defScope s_7) := ⟨rfl, rfl, rfl, by decide +kernel, rfl, by decide +kernel, by decide +kernel⟩
theorem ok_7 (Z : Txt K mg ev) (L : Lv P w K mg base ev n) : FnOk P w K mg base CX0 (2 * (n + 1) + 2) (ev.fa 7) (ev.fd 7) (nms 7) (spI (gx P w K ev) (evF T pr wf (n + 1)) (ioOf T 7) 7) := by
  refine fn_go (k := 2 * n + 3) (d := d_7) rfl rfl Z.F_7 sc_7 rfl rfl fun cdv A outer s H E hr => ?_
  have hu := Room.u65 hr
  have hu4 := hr.units
  have hr1 : Room (2 * n + 2) _ := hr.mono (Nat.le_succ _)
  have hN := (sc_7).nd
  exact (rss_cons (rs_asg 3 hN (re_bin .add (re_var 1) (re_tup (ra_cons (re_var 2) (ra_nil))))) (rss_cons (rs_ite (rt_cmp .isin (re_var 3) (re_fld (ci := 0) (f := 5) (re_var 0) Z.cl0 Z.na0_codes rfl) hu) (rss_cons (rs_ret (re_tup (ra_cons (re_tup (ra_nil)) (ra_cons (re_lst (ra_cons (re_bm .index PySem.F.slot_list_index PySem.F.type_list_index hu4 (re_fld (ci := 0) (f := 5) (re_var 0) Z.cl0 Z.na0_codes rfl) (ra_cons (re_var 3) (ra_nil))) (ra_nil))) (ra_nil))))) (rss_nil)) (rss_nil)) (rss_cons (rs_ite (rt_cmp .ne (re_lc [("other", 4)] rfl hN (ri_of (re_fld (ci := 0) (f := 5) (re_var 0) Z.cl0 Z.na0_codes rfl)) (show blkC ["plan", "state", "sign", "code", "other"] (defScope s_7) _ [("other", 4)] = true by decide +kernel) (fun _ _ _ _ _ => (rg_one 4 hN)) (fun _ _ _ _ _ => (rc_some (rt_cmp .eq (re_sl (re_var 4) ro_none (ro_some (re_biB .len rfl rfl rfl Z.n_len rfl (ra_cons (re_var 3) (ra_nil)) bt_len))) (re_var 3) hu))) (fun _ _ _ _ _ => (re_var 4)) (by decide)) (re_lst (ra_nil)) hu) (rss_cons (rs_ret (re_tup (ra_cons (re_var 3) (ra_cons (re_lst (ra_nil)) (ra_nil))))) (rss_nil)) (rss_nil)) (rss_cons (rs_ret (re_non)) (rss_nil)))))
theorem sc_8 : FnScope ["plan", "state", "sign", "left", "sort", "bare", "count", "told"] ["plan", "state", "sign"] (defScope s_8) := ⟨rfl, rfl, rfl, by decide +kernel, rfl, by decide +kernel, by decide +kernel⟩
theorem ok_8 (Z : Txt K mg ev) (L : Lv P w K mg base ev n) : FnOk P w K mg base CX0 (2 * (n + 1) + 2) (ev.fa 8) (ev.fd 8) (nms 8) (spI (gx P w K ev) (evF T pr wf (n + 1)) (ioOf T 8) 8) := by
  refine fn_go (k := 2 * n + 3) (d := d_8) rfl rfl Z.F_8 sc_8 rfl rfl fun cdv A outer s H E hr => ?_
  have hu := Room.u65 hr
  have hu4 := hr.units
  have hr1 : Room (2 * n + 2) _ := hr.mono (Nat.le_succ _)
  have hN := (sc_8).nd
  exact (rss_cons (rs_asgT (re_var 1) (rg_many (is := [3, 4, 5]) rfl (rgs_cons 3 hN (rgs_cons 4 hN (rgs_cons 5 hN (rgs_nil)))))) (rss_cons (rs_ite (rt_cmp .gt (re_var 3) (re_int) hu) (rss_cons (rs_ret (re_tup (ra_cons (re_tup (ra_cons (re_bin .sub (re_var 3) (re_int)) (ra_cons (re_var 4) (ra_cons (re_var 5) (ra_nil))))) (ra_cons (re_meth (ci := 0) (mi := 14) rfl (re_var 0) Z.cl0 Z.mt0_back (L 25 _ rfl) hr1 Z.b_25 (ra_cons (re_lst (ra_cons (re_var 2) (ra_nil))) (ra_nil))) (ra_nil))))) (rss_nil)) (rss_nil)) (rss_cons (rs_asg 6 hN (re_bin .add (re_bm .index PySem.F.slot_list_index PySem.F.type_list_index hu4 (re_meth0 (ci := 0) (mi := 12) rfl (re_var 0) Z.cl0 Z.mt0_plain (L 23 _ rfl) hr1 Z.b_23) (ra_cons (re_var 2) (ra_nil))) (re_int))) (rss_cons (rs_ite (rt_cmp .gt (re_var 6) (re_fld (ci := 0) (f := 3) (re_var 0) Z.cl0 Z.na0_limit rfl) hu) (rss_cons (rs_ret (re_non)) (rss_nil)) (rss_nil)) (rss_cons (rs_asg 7 hN (re_ife (rt_cmp .eq (re_var 4) (re_str) hu) (re_meth (ci := 0) (mi := 14) rfl (re_var 0) Z.cl0 Z.mt0_back (L 25 _ rfl) hr1 Z.b_25 (ra_cons (re_lst (ra_cons (re_fld (ci := 0) (f := 2) (re_var 0) Z.cl0 Z.na0_end rfl) (ra_nil))) (ra_nil))) (re_lst (ra_nil)))) (rss_cons (rs_ite (rt_cmp .eq (re_var 6) (re_fld (ci := 0) (f := 3) (re_var 0) Z.cl0 Z.na0_limit rfl) hu) (rss_cons (rs_ret (re_tup (ra_cons (re_tup (ra_cons (re_bin .sub (re_var 6) (re_int)) (ra_cons (re_str) (ra_cons (re_bl) (ra_nil))))) (ra_cons (re_var 7) (ra_nil))))) (rss_nil)) (rss_nil)) (rss_cons (rs_ret (re_tup (ra_cons (re_tup (ra_cons (re_bin .sub (re_var 6) (re_int)) (ra_cons (re_str) (ra_cons (re_and (re_cmp .eq (re_var 6) (re_int) hu) (re_and1 (re_cmp .eq (re_var 4) (re_str) hu))) (ra_nil))))) (ra_cons (re_var 7) (ra_nil))))) (rss_nil))))))))
theorem sc_9 : FnScope ["plan", "state", "sign"] ["plan", "state", "sign"] (defScope s_9) := ⟨rfl, rfl, rfl, by decide +kernel, rfl, by decide +kernel, by decide +kernel⟩
theorem ok_9 (Z : Txt K mg ev) (L : Lv P w K mg base ev n) : FnOk P w K mg base CX0 (2 * (n + 1) + 2) (ev.fa 9) (ev.fd 9) (nms 9) (spI (gx P w K ev) (evF T pr wf (n + 1)) (ioOf T 9) 9) := by
  refine fn_go (k := 2 * n + 3) (d := d_9) rfl rfl Z.F_9 sc_9 rfl rfl fun cdv A outer s H E hr => ?_
  have hu := Room.u65 hr
  have hu4 := hr.units
  have hr1 : Room (2 * n + 2) _ := hr.mono (Nat.le_succ _)
  have hN := (sc_9).nd
  exact (rss_cons (rs_ite (rt_cmp .eq (re_fld (ci := 0) (f := 0) (re_var 0) Z.cl0 Z.na0_kind rfl) (re_str) hu) (rss_cons (rs_ret (re_call (L 7 _ rfl) hr1 rfl Z.m_7 Z.k_7 Z.b_7 (ra_cons (re_var 0) (ra_cons (re_var 1) (ra_cons (re_var 2) (ra_nil)))))) (rss_nil)) (rss_nil)) (rss_cons (rs_ite (rt_cmp .eq (re_fld (ci := 0) (f := 0) (re_var 0) Z.cl0 Z.na0_kind rfl) (re_str) hu) (rss_cons (rs_ret (re_call (L 8 _ rfl) hr1 rfl Z.m_8 Z.k_8 Z.b_8 (ra_cons (re_var 0) (ra_cons (re_var 1) (ra_cons (re_var 2) (ra_nil)))))) (rss_nil)) (rss_nil)) (rss_cons (rs_ret (re_tup (ra_cons (re_bin .add (re_var 1) (re_tup (ra_cons (re_var 2) (ra_nil)))) (ra_cons (re_lst (ra_nil)) (ra_nil))))) (rss_nil))))
theorem sc_10 : FnScope ["plan", "state", "left", "sort", "bare", "plain", "number", "sign"] ["plan", "state"] (defScope s_10) := ⟨rfl, rfl, rfl, by decide +kernel, rfl, by decide +kernel, by decide +kernel⟩
theorem ok_10 (Z : Txt K mg ev) (L : Lv P w K mg base ev n) : FnOk P w K mg base CX0 (2 * (n + 1) + 2) (ev.fa 10) (ev.fd 10) (nms 10) (spI (gx P w K ev) (evF T pr wf (n + 1)) (ioOf T 10) 10) := by
  refine fn_go (k := 2 * n + 3) (d := d_10) rfl rfl Z.F_10 sc_10 rfl rfl fun cdv A outer s H E hr => ?_
  have hu := Room.u65 hr
  have hu4 := hr.units
  have hr1 : Room (2 * n + 2) _ := hr.mono (Nat.le_succ _)
  have hN := (sc_10).nd
  exact (rss_cons (rs_ite (rt_cmp .eq (re_fld (ci := 0) (f := 0) (re_var 0) Z.cl0 Z.na0_kind rfl) (re_str) hu) (rss_cons (rs_ret (re_ife (rt_cmp .eq (re_var 1) (re_tup (ra_nil)) hu) (re_lst (ra_nil)) (re_non))) (rss_nil)) (rss_nil)) (rss_cons (rs_ite (rt_cmp .eq (re_fld (ci := 0) (f := 0) (re_var 0) Z.cl0 Z.na0_kind rfl) (re_str) hu) (rss_cons (rs_asgT (re_var 1) (rg_many (is := [2, 3, 4]) rfl (rgs_cons 2 hN (rgs_cons 3 hN (rgs_cons 4 hN (rgs_nil)))))) (rss_cons (rs_ret (re_ife (L2.PW.pt (rt_and (rt_cmp .eq (re_var 2) (re_int) hu) (rt_and (rt_cmp .ne (re_var 3) (re_str) hu) (rt_and1 (rt_not (rt_val (re_var 4))))))) (re_lst (ra_nil)) (re_non))) (rss_nil))) (rss_nil)) (rss_cons (rs_asg 5 hN (re_meth0 (ci := 0) (mi := 12) rfl (re_var 0) Z.cl0 Z.mt0_plain (L 23 _ rfl) hr1 Z.b_23)) (rss_cons (rs_asg 6 hN (re_call (L 0 _ rfl) hr1 rfl Z.m_0 Z.k_0 Z.b_0 (ra_cons (re_lc [("sign", 7)] rfl hN (ri_of (re_var 1)) (show blkC ["plan", "state", "left", "sort", "bare", "plain", "number", "sign"] (defScope s_10) _ [("sign", 7)] = true by decide +kernel) (fun _ _ _ _ _ => (rg_one 7 hN)) (fun _ _ _ _ _ => rc_none) (fun _ _ _ _ _ => (re_bm .index PySem.F.slot_list_index PySem.F.type_list_index hu4 (re_var 5) (ra_cons (re_var 7) (ra_nil)))) (by decide)) (ra_cons (re_bin .sub (re_fld (ci := 0) (f := 1) (re_var 0) Z.cl0 Z.na0_top rfl) (re_int)) (ra_nil))))) (rss_cons (rs_ret (re_meth (ci := 0) (mi := 14) rfl (re_var 0) Z.cl0 Z.mt0_back (L 25 _ rfl) hr1 Z.b_25 (ra_cons (re_call (L 1 _ rfl) hr1 rfl Z.m_1 Z.k_1 Z.b_1 (ra_cons (re_var 6) (ra_cons (re_fld (ci := 0) (f := 1) (re_var 0) Z.cl0 Z.na0_top rfl) (ra_nil)))) (ra_nil)))) (rss_nil))))))
theorem sc_11 : FnScope ["way"] ["way"] (defScope s_11) := ⟨rfl, rfl, rfl, by decide +kernel, rfl, by decide +kernel, by decide +kernel⟩
theorem ok_11 (Z : Txt K mg ev) (L : Lv P w K mg base ev n) : FnOk P w K mg base CX0 (2 * (n + 1) + 2) (ev.fa 11) (ev.fd 11) (nms 11) (spI (gx P w K ev) (evF T pr wf (n + 1)) (ioOf T 11) 11) := by
  refine fn_go (k := 2 * n + 3) (d := d_11) rfl rfl Z.F_11 sc_11 rfl rfl fun cdv A outer s H E hr => ?_
  have hu := Room.u65 hr
  have hu4 := hr.units
  have hr1 : Room (2 * n + 2) _ := hr.mono (Nat.le_succ _)
  have hN := (sc_11).nd
  exact (rss_cons (rs_whl PassesOwn.never (rt_cmp .eq (re_ix (re_var 0) (re_int)) (re_str) hu) (rss_cons (rs_asg 0 hN (re_ix (re_var 0) (re_int))) (rss_nil))) (rss_cons (rs_ret (re_var 0)) (rss_nil)))
theorem sc_12 : FnScope ["way", "found"] ["way"] (defScope s_12) := ⟨rfl, rfl, rfl, by decide +kernel, rfl, by decide +kernel, by decide +kernel⟩
theorem ok_12 (Z : Txt K mg ev) (L : Lv P w K mg base ev n) : FnOk P w K mg base CX0 (2 * (n + 1) + 2) (ev.fa 12) (ev.fd 12) (nms 12) (spI (gx P w K ev) (evF T pr wf (n + 1)) (ioOf T 12) 12) := by
  refine fn_go (k := 2 * n + 3) (d := d_12) rfl rfl Z.F_12 sc_12 rfl rfl fun cdv A outer s H E hr => ?_
  have hu := Room.u65 hr
  have hu4 := hr.units
  have hr1 : Room (2 * n + 2) _ := hr.mono (Nat.le_succ _)
  have hN := (sc_12).nd
  exact (rss_cons (rs_asg 1 hN (re_lst (ra_nil))) (rss_cons (rs_whl PassesOwn.never (rt_cmp .eq (re_ix (re_var 0) (re_int)) (re_str) hu) (rss_cons (rs_ex (re_bm .append PySem.F.slot_list_append PySem.F.type_list_append hu4 (re_var 1) (ra_cons (re_ix (re_var 0) (re_int)) (ra_nil)))) (rss_cons (rs_asg 0 hN (re_ix (re_var 0) (re_int))) (rss_nil)))) (rss_cons (rs_ret (re_var 1)) (rss_nil))))
theorem sc_13 : FnScope ["sign", "top", "end"] ["sign", "top", "end"] (defScope s_13) := ⟨rfl, rfl, rfl, by decide +kernel, rfl, by decide +kernel, by decide +kernel⟩
theorem ok_13 (Z : Txt K mg ev) (L : Lv P w K mg base ev n) : FnOk P w K mg base CX0 (2 * (n + 1) + 2) (ev.fa 13) (ev.fd 13) (nms 13) (spI (gx P w K ev) (evF T pr wf (n + 1)) (ioOf T 13) 13) := by
  refine fn_go (k := 2 * n + 3) (d := d_13) rfl rfl Z.F_13 sc_13 rfl rfl fun cdv A outer s H E hr => ?_
  have hu := Room.u65 hr
  have hu4 := hr.units
  have hr1 : Room (2 * n + 2) _ := hr.mono (Nat.le_succ _)
  have hN := (sc_13).nd
  exact (rss_cons (rs_ret (re_and (re_chain .le .lt (re_int) (re_var 0) (re_var 1) hu) (re_and1 (re_cmp .ne (re_var 0) (re_var 2) hu)))) (rss_nil))
theorem sc_14 : FnScope ["signs", "top", "end", "sign"] ["signs", "top", "end"] (defScope s_14) := ⟨rfl, rfl, rfl, by decide +kernel, rfl, by decide +kernel, by decide +kernel⟩
theorem ok_14 (Z : Txt K mg ev) (L : Lv P w K mg base ev n) : FnOk P w K mg base CX0 (2 * (n + 1) + 2) (ev.fa 14) (ev.fd 14) (nms 14) (spI (gx P w K ev) (evF T pr wf (n + 1)) (ioOf T 14) 14) := by
  refine fn_go (k := 2 * n + 3) (d := d_14) rfl rfl Z.F_14 sc_14 rfl rfl fun cdv A outer s H E hr => ?_
  have hu := Room.u65 hr
  have hu4 := hr.units
  have hr1 : Room (2 * n + 2) _ := hr.mono (Nat.le_succ _)
  have hN := (sc_14).nd
  exact (rss_cons (rs_ret (re_cmp .eq (re_lc [("sign", 3)] rfl hN (ri_of (re_var 0)) (show blkC ["signs", "top", "end", "sign"] (defScope s_14) _ [("sign", 3)] = true by decide +kernel) (fun _ _ _ _ _ => (rg_one 3 hN)) (fun _ _ _ _ _ => (rc_some (rt_not (rt_val (re_call (L 13 _ rfl) hr1 rfl Z.m_13 Z.k_13 Z.b_13 (ra_cons (re_var 3) (ra_cons (re_var 1) (ra_cons (re_var 2) (ra_nil))))))))) (fun _ _ _ _ _ => (re_var 3)) (by decide)) (re_lst (ra_nil)) hu)) (rss_nil))
theorem sc_15 : FnScope ["one", "other"] ["one", "other"] (defScope s_15) := ⟨rfl, rfl, rfl, by decide +kernel, rfl, by decide +kernel, by decide +kernel⟩
theorem ok_15 (Z : Txt K mg ev) (L : Lv P w K mg base ev n) : FnOk P w K mg base CX0 (2 * (n + 1) + 2) (ev.fa 15) (ev.fd 15) (nms 15) (spI (gx P w K ev) (evF T pr wf (n + 1)) (ioOf T 15) 15) := by
  refine fn_go (k := 2 * n + 3) (d := d_15) rfl rfl Z.F_15 sc_15 rfl rfl fun cdv A outer s H E hr => ?_
  have hu := Room.u65 hr
  have hu4 := hr.units
  have hr1 : Room (2 * n + 2) _ := hr.mono (Nat.le_succ _)
  have hN := (sc_15).nd
  exact (rss_cons (rs_ret (re_cmp .eq (re_sl (re_var 1) ro_none (ro_some (re_biB .len rfl rfl rfl Z.n_len rfl (ra_cons (re_var 0) (ra_nil)) bt_len))) (re_var 0) hu)) (rss_nil))
theorem sc_16 : FnScope ["codes", "top", "end", "at", "code", "other"] ["codes", "top", "end"] (defScope s_16) := ⟨rfl, rfl, rfl, by decide +kernel, rfl, by decide +kernel, by decide +kernel⟩
theorem ok_16 (Z : Txt K mg ev) (L : Lv P w K mg base ev n) : FnOk P w K mg base CX0 (2 * (n + 1) + 2) (ev.fa 16) (ev.fd 16) (nms 16) (spI (gx P w K ev) (evF T pr wf (n + 1)) (ioOf T 16) 16) := by
  refine fn_go (k := 2 * n + 3) (d := d_16) rfl rfl Z.F_16 sc_16 rfl rfl fun cdv A outer s H E hr => ?_
  have hu := Room.u65 hr
  have hu4 := hr.units
  have hr1 : Room (2 * n + 2) _ := hr.mono (Nat.le_succ _)
  have hN := (sc_16).nd
  obtain ⟨t_MOST_CODE, c_MOST_CODE⟩ := Z.c_MOST_CODE
  exact (rss_cons (rs_ite (rt_cmp .ne (re_biB .len rfl rfl rfl Z.n_len rfl (ra_cons (re_var 0) (ra_nil)) bt_len) (re_var 1) hu) (rss_cons (rs_ret (re_bl)) (rss_nil)) (rss_nil)) (rss_cons (rs_for PassesOwn.never rfl (ri_enum (re_var 0) rfl Z.n_enumerate) (rg_many (is := [3, 4]) rfl (rgs_cons 3 hN (rgs_cons 4 hN (rgs_nil)))) (rss_cons (rs_ite (L2.PW.pt (rt_or (rt_not (rt_chain .le .le (re_int) (re_biB .len rfl rfl rfl Z.n_len rfl (ra_cons (re_var 4) (ra_nil)) bt_len) (re_gI rfl c_MOST_CODE ⟨_, rfl⟩) hu)) (rt_or1 (rt_not (rt_val (re_call (L 14 _ rfl) hr1 rfl Z.m_14 Z.k_14 Z.b_14 (ra_cons (re_var 4) (ra_cons (re_var 1) (ra_cons (re_var 2) (ra_nil)))))))))) (rss_cons (rs_ret (re_bl)) (rss_nil)) (rss_nil)) (rss_cons (rs_for PassesOwn.never rfl (ri_of (re_sl (re_var 0) ro_none (ro_some (re_var 3)))) (rg_one 5 hN) (rss_cons (rs_ite (L2.PW.pt (rt_or (rt_val (re_call (L 15 _ rfl) hr1 rfl Z.m_15 Z.k_15 Z.b_15 (ra_cons (re_var 4) (ra_cons (re_var 5) (ra_nil))))) (rt_or1 (rt_val (re_call (L 15 _ rfl) hr1 rfl Z.m_15 Z.k_15 Z.b_15 (ra_cons (re_var 5) (ra_cons (re_var 4) (ra_nil)))))))) (rss_cons (rs_ret (re_bl)) (rss_nil)) (rss_nil)) (rss_nil))) (rss_nil)))) (rss_cons (rs_ret (re_bl)) (rss_nil))))
theorem sc_17 : FnScope ["pairs", "top", "end", "mark", "signs", "sign", "code", "codes"] ["pairs", "top", "end", "mark"] (defScope s_17) := ⟨rfl, rfl, rfl, by decide +kernel, rfl, by decide +kernel, by decide +kernel⟩
theorem ok_17 (Z : Txt K mg ev) (L : Lv P w K mg base ev n) : FnOk P w K mg base CX0 (2 * (n + 1) + 2) (ev.fa 17) (ev.fd 17) (nms 17) (spI (gx P w K ev) (evF T pr wf (n + 1)) (ioOf T 17) 17) := by
  refine fn_go (k := 2 * n + 3) (d := d_17) rfl rfl Z.F_17 sc_17 rfl rfl fun cdv A outer s H E hr => ?_
  have hu := Room.u65 hr
  have hu4 := hr.units
  have hr1 : Room (2 * n + 2) _ := hr.mono (Nat.le_succ _)
  have hN := (sc_17).nd
  exact (rss_cons (rs_asgLc 4 [("sign", 5), ("code", 6)] rfl hN (ri_of (re_var 0)) (show blkC ["pairs", "top", "end", "mark", "signs", "sign", "code", "codes"] (defScope s_17) _ [("sign", 5), ("code", 6)] = true by decide +kernel) (fun _ _ _ _ _ => (rg_many (is := [5, 6]) rfl (rgs_cons 5 hN (rgs_cons 6 hN (rgs_nil))))) (fun _ _ _ _ _ => rc_none) (fun _ _ _ _ _ => (re_var 5)) (by decide)) (rss_cons (rs_asgLc 7 [("sign", 5), ("code", 6)] rfl hN (ri_of (re_var 0)) (show blkC ["pairs", "top", "end", "mark", "signs", "sign", "code", "codes"] (defScope s_17) _ [("sign", 5), ("code", 6)] = true by decide +kernel) (fun _ _ _ _ _ => (rg_many (is := [5, 6]) rfl (rgs_cons 5 hN (rgs_cons 6 hN (rgs_nil))))) (fun _ _ _ _ _ => rc_none) (fun _ _ _ _ _ => (re_var 6)) (by decide)) (rss_cons (rs_ite (L2.PW.pt (rt_or (rt_cmp .ne (re_var 4) (re_sortedSet rfl rfl Z.n_sorted rfl Z.n_set (re_var 4)) hu) (rt_or (rt_cmp .notin (re_var 2) (re_var 4) hu) (rt_or1 (rt_cmp .notin (re_var 3) (re_var 4) hu))))) (rss_cons (rs_ret (re_bl)) (rss_nil)) (rss_nil)) (rss_cons (rs_ite (rt_cmp .ne (re_lc [("sign", 5)] rfl hN (ri_of (re_var 4)) (show blkC ["pairs", "top", "end", "mark", "signs", "sign", "code", "codes"] (defScope s_17) _ [("sign", 5)] = true by decide +kernel) (fun _ _ _ _ _ => (rg_one 5 hN)) (fun _ _ _ _ _ => (rc_some (rt_not (rt_chain .le .lt (re_int) (re_var 5) (re_var 1) hu)))) (fun _ _ _ _ _ => (re_var 5)) (by decide)) (re_lst (ra_nil)) hu) (rss_cons (rs_ret (re_bl)) (rss_nil)) (rss_nil)) (rss_cons (rs_ret (re_and (re_cmp .eq (re_lenSet rfl rfl Z.n_len rfl Z.n_set (re_var 7)) (re_biB .len rfl rfl rfl Z.n_len rfl (ra_cons (re_var 7) (ra_nil)) bt_len) hu) (re_and1 (re_call (L 14 _ rfl) hr1 rfl Z.m_14 Z.k_14 Z.b_14 (ra_cons (re_var 7) (ra_cons (re_var 1) (ra_cons (re_var 2) (ra_nil)))))))) (rss_nil))))))
theorem sc_18 : FnScope ["way", "word", "top", "end"] ["way"] (defScope s_18) := ⟨rfl, rfl, rfl, by decide +kernel, rfl, by decide +kernel, by decide +kernel⟩
theorem ok_18 (Z : Txt K mg ev) (L : Lv P w K mg base ev n) : FnOk P w K mg base CX0 (2 * (n + 1) + 2) (ev.fa 18) (ev.fd 18) (nms 18) (spI (gx P w K ev) (evF T pr wf (n + 1)) (ioOf T 18) 18) := by
  refine fn_go (k := 2 * n + 3) (d := d_18) rfl rfl Z.F_18 sc_18 rfl rfl fun cdv A outer s H E hr => ?_
  have hu := Room.u65 hr
  have hu4 := hr.units
  have hr1 : Room (2 * n + 2) _ := hr.mono (Nat.le_succ _)
  have hN := (sc_18).nd
  obtain ⟨t_LEAST_TOP, c_LEAST_TOP⟩ := Z.c_LEAST_TOP
  obtain ⟨t_MOST_TOP, c_MOST_TOP⟩ := Z.c_MOST_TOP
  exact (rss_cons (rs_asgT (re_sl (re_var 0) ro_none (ro_some (re_int))) (rg_many (is := [1, 2, 3]) rfl (rgs_cons 1 hN (rgs_cons 2 hN (rgs_cons 3 hN (rgs_nil)))))) (rss_cons (rs_ite (rt_not (rt_chain .le .le (re_gI rfl c_LEAST_TOP ⟨_, rfl⟩) (re_var 2) (re_gI rfl c_MOST_TOP ⟨_, rfl⟩) hu)) (rss_cons (rs_ret (re_str)) (rss_nil)) (rss_nil)) (rss_cons (rs_ite (rt_not (rt_chain .le .lt (re_int) (re_var 3) (re_var 2) hu)) (rss_cons (rs_ret (re_str)) (rss_nil)) (rss_nil)) (rss_cons (rs_ite (L2.PW.pt (rt_and (rt_cmp .eq (re_var 1) (re_str) hu) (rt_and1 (rt_not (rt_val (re_call (L 16 _ rfl) hr1 rfl Z.m_16 Z.k_16 Z.b_16 (ra_cons (re_ix (re_var 0) (re_int)) (ra_cons (re_var 2) (ra_cons (re_var 3) (ra_nil)))))))))) (rss_cons (rs_ret (re_str)) (rss_nil)) (rss_nil)) (rss_cons (rs_ite (L2.PW.pt (rt_and (rt_cmp .eq (re_var 1) (re_str) hu) (rt_and1 (rt_not (rt_val (re_call (L 13 _ rfl) hr1 rfl Z.m_13 Z.k_13 Z.b_13 (ra_cons (re_ix (re_var 0) (re_int)) (ra_cons (re_var 2) (ra_cons (re_var 3) (ra_nil)))))))))) (rss_cons (rs_ret (re_str)) (rss_nil)) (rss_nil)) (rss_cons (rs_ite (L2.PW.pt (rt_and (rt_cmp .eq (re_var 1) (re_str) hu) (rt_and1 (rt_not (rt_val (re_call (L 17 _ rfl) hr1 rfl Z.m_17 Z.k_17 Z.b_17 (ra_cons (re_ix (re_var 0) (re_int)) (ra_cons (re_var 2) (ra_cons (re_var 3) (ra_cons (re_ix (re_var 0) (re_int)) (ra_nil))))))))))) (rss_cons (rs_ret (re_str)) (rss_nil)) (rss_nil)) (rss_cons (rs_ite (L2.PW.pt (rt_and (rt_cmp .eq (re_var 1) (re_str) hu) (rt_and1 (rt_not (rt_chain .le .lt (re_int) (re_ix (re_var 0) (re_int)) (re_var 2) hu))))) (rss_cons (rs_ret (re_str)) (rss_nil)) (rss_nil)) (rss_cons (rs_ret (re_non)) (rss_nil)))))))))
theorem sc_19 : FnScope ["way", "why", "signs"] ["way"] (defScope s_19) := ⟨rfl, rfl, rfl, by decide +kernel, rfl, by decide +kernel, by decide +kernel⟩
theorem ok_19 (Z : Txt K mg ev) (L : Lv P w K mg base ev n) : FnOk P w K mg base CX0 (2 * (n + 1) + 2) (ev.fa 19) (ev.fd 19) (nms 19) (spI (gx P w K ev) (evF T pr wf (n + 1)) (ioOf T 19) 19) := by
  refine fn_go (k := 2 * n + 3) (d := d_19) rfl rfl Z.F_19 sc_19 rfl rfl fun cdv A outer s H E hr => ?_
  have hu := Room.u65 hr
  have hu4 := hr.units
  have hr1 : Room (2 * n + 2) _ := hr.mono (Nat.le_succ _)
  have hN := (sc_19).nd
  obtain ⟨t_MOST_TURNS, c_MOST_TURNS⟩ := Z.c_MOST_TURNS
  exact (rss_cons (rs_ite (rt_cmp .gt (re_biB .len rfl rfl rfl Z.n_len rfl (ra_cons (re_call (L 12 _ rfl) hr1 rfl Z.m_12 Z.k_12 Z.b_12 (ra_cons (re_var 0) (ra_nil))) (ra_nil)) bt_len) (re_gI rfl c_MOST_TURNS ⟨_, rfl⟩) hu) (rss_cons (rs_never) (rss_nil)) (rss_nil)) (rss_cons (rs_asg 1 hN (re_call (L 18 _ rfl) hr1 rfl Z.m_18 Z.k_18 Z.b_18 (ra_cons (re_call (L 11 _ rfl) hr1 rfl Z.m_11 Z.k_11 Z.b_11 (ra_cons (re_var 0) (ra_nil))) (ra_nil)))) (rss_cons (rs_ite (rt_notN (re_var 1)) (rss_cons (rs_never) (rss_nil)) (rss_nil)) (rss_cons (rs_for PassesOwn.never rfl (ri_of (re_call (L 12 _ rfl) hr1 rfl Z.m_12 Z.k_12 Z.b_12 (ra_cons (re_var 0) (ra_nil)))) (rg_one 2 hN) (rss_cons (rs_ite (rt_cmp .ne (re_biB .sorted rfl rfl rfl Z.n_sorted rfl (ra_cons (re_var 2) (ra_nil)) bt_sorted) (re_listRange rfl rfl Z.n_list rfl Z.n_range (re_ix (re_call (L 11 _ rfl) hr1 rfl Z.m_11 Z.k_11 Z.b_11 (ra_cons (re_var 0) (ra_nil))) (re_int))) hu) (rss_cons (rs_never) (rss_nil)) (rss_nil)) (rss_nil))) (rss_nil)))))
theorem sc_20 : FnScope ["way", "word", "top", "end", "mark", "pairs", "codes", "sign", "code"] ["way"] (defScope s_20) := ⟨rfl, rfl, rfl, by decide +kernel, rfl, by decide +kernel, by decide +kernel⟩
theorem ok_20 (Z : Txt K mg ev) (L : Lv P w K mg base ev n) : FnOk P w K mg base CX0 (2 * (n + 1) + 2) (ev.fa 20) (ev.fd 20) (nms 20) (spI (gx P w K ev) (evF T pr wf (n + 1)) (ioOf T 20) 20) := by
  refine fn_go (k := 2 * n + 3) (d := d_20) rfl rfl Z.F_20 sc_20 rfl rfl fun cdv A outer s H E hr => ?_
  have hu := Room.u65 hr
  have hu4 := hr.units
  have hr1 : Room (2 * n + 2) _ := hr.mono (Nat.le_succ _)
  have hN := (sc_20).nd
  exact (rss_cons (rs_asgT (re_var 0) (rg_many (is := [1, 2, 3, 4, 5]) rfl (rgs_cons 1 hN (rgs_cons 2 hN (rgs_cons 3 hN (rgs_cons 4 hN (rgs_cons 5 hN (rgs_nil)))))))) (rss_cons (rs_asgLc 6 [("sign", 7)] rfl hN (ri_rng1 (re_var 2) rfl Z.n_range) (show blkC ["way", "word", "top", "end", "mark", "pairs", "codes", "sign", "code"] (defScope s_20) _ [("sign", 7)] = true by decide +kernel) (fun _ _ _ _ _ => (rg_one 7 hN)) (fun _ _ _ _ _ => rc_none) (fun _ _ _ _ _ => (re_tup (ra_cons (re_var 7) (ra_nil)))) (by decide)) (rss_cons (rs_for PassesOwn.never rfl (ri_of (re_var 5)) (rg_many (is := [7, 8]) rfl (rgs_cons 7 hN (rgs_cons 8 hN (rgs_nil)))) (rss_cons (rs_setix (re_var 6) (re_var 7) (re_tup (ra_cons (re_var 4) (ra_cons (re_var 8) (ra_nil))))) (rss_nil))) (rss_cons (rs_ret (re_var 6)) (rss_nil)))))
theorem sc_21 : FnScope ["self", "way", "inner", "signs", "sign", "codes"] ["self", "way"] (defScope s_21) := ⟨rfl, rfl, rfl, by decide +kernel, rfl, by decide +kernel, by decide +kernel⟩
theorem ok_21 (Z : Txt K mg ev) (L : Lv P w K mg base ev n) : FnOk P w K mg base CX0 (2 * (n + 1) + 2) (ev.fa 21) (ev.fd 21) (nms 21) (spI (gx P w K ev) (evF T pr wf (n + 1)) (ioOf T 21) 21) := by
  refine fn_go (k := 2 * n + 3) (d := d_21) rfl rfl Z.F_21 sc_21 rfl rfl fun cdv A outer s H E hr => ?_
  have hu := Room.u65 hr
  have hu4 := hr.units
  have hr1 : Room (2 * n + 2) _ := hr.mono (Nat.le_succ _)
  have hN := (sc_21).nd
  exact (rss_cons (rs_ex (re_call (L 19 _ rfl) hr1 rfl Z.m_19 Z.k_19 Z.b_19 (ra_cons (re_var 1) (ra_nil)))) (rss_cons (rs_asg 2 hN (re_call (L 11 _ rfl) hr1 rfl Z.m_11 Z.k_11 Z.b_11 (ra_cons (re_var 1) (ra_nil)))) (rss_cons (rs_setfld (ci := 0) (f := 0) 0 (re_ix (re_var 2) (re_int)) Z.cl0 Z.na0_kind rfl) (rss_cons (rs_setfld (ci := 0) (f := 1) 0 (re_ix (re_var 2) (re_int)) Z.cl0 Z.na0_top rfl) (rss_cons (rs_setfld (ci := 0) (f := 2) 0 (re_ix (re_var 2) (re_int)) Z.cl0 Z.na0_end rfl) (rss_cons (rs_setfld (ci := 0) (f := 3) 0 (re_ife (rt_cmp .eq (re_fld (ci := 0) (f := 0) (re_var 0) Z.cl0 Z.na0_kind rfl) (re_str) hu) (re_ix (re_var 2) (re_int)) (re_int)) Z.cl0 Z.na0_limit rfl) (rss_cons (rs_setfld (ci := 0) (f := 4) 0 (re_listRange rfl rfl Z.n_list rfl Z.n_range (re_fld (ci := 0) (f := 1) (re_var 0) Z.cl0 Z.na0_top rfl)) Z.cl0 Z.na0_signs rfl) (rss_cons (rs_for PassesOwn.never rfl (ri_of (re_call (L 12 _ rfl) hr1 rfl Z.m_12 Z.k_12 Z.b_12 (ra_cons (re_var 1) (ra_nil)))) (rg_one 3 hN) (rss_cons (rs_setfld (ci := 0) (f := 4) 0 (re_lc [("sign", 4)] rfl hN (ri_of (re_fld (ci := 0) (f := 4) (re_var 0) Z.cl0 Z.na0_signs rfl)) (show blkC ["self", "way", "inner", "signs", "sign", "codes"] (defScope s_21) _ [("sign", 4)] = true by decide +kernel) (fun _ _ _ _ _ => (rg_one 4 hN)) (fun _ _ _ _ _ => rc_none) (fun _ _ _ _ _ => (re_ix (re_var 3) (re_var 4))) (by decide)) Z.cl0 Z.na0_signs rfl) (rss_nil))) (rss_cons (rs_setfld (ci := 0) (f := 5) 0 (re_lst (ra_nil)) Z.cl0 Z.na0_codes rfl) (rss_cons (rs_ite (rt_cmp .isin (re_fld (ci := 0) (f := 0) (re_var 0) Z.cl0 Z.na0_kind rfl) (re_tup (ra_cons (re_str) (ra_cons (re_str) (ra_nil)))) hu) (rss_cons (rs_asg 5 hN (re_ife (rt_cmp .eq (re_fld (ci := 0) (f := 0) (re_var 0) Z.cl0 Z.na0_kind rfl) (re_str) hu) (re_ix (re_var 2) (re_int)) (re_call (L 20 _ rfl) hr1 rfl Z.m_20 Z.k_20 Z.b_20 (ra_cons (re_var 2) (ra_nil))))) (rss_cons (rs_setfld (ci := 0) (f := 0) 0 (re_str) Z.cl0 Z.na0_kind rfl) (rss_cons (rs_setfld (ci := 0) (f := 5) 0 (re_lc [("sign", 4)] rfl hN (ri_of (re_fld (ci := 0) (f := 4) (re_var 0) Z.cl0 Z.na0_signs rfl)) (show blkC ["self", "way", "inner", "signs", "sign", "codes"] (defScope s_21) _ [("sign", 4)] = true by decide +kernel) (fun _ _ _ _ _ => (rg_one 4 hN)) (fun _ _ _ _ _ => rc_none) (fun _ _ _ _ _ => (re_ix (re_var 5) (re_var 4))) (by decide)) Z.cl0 Z.na0_codes rfl) (rss_cons (rs_setfld (ci := 0) (f := 4) 0 (re_listRange rfl rfl Z.n_list rfl Z.n_range (re_fld (ci := 0) (f := 1) (re_var 0) Z.cl0 Z.na0_top rfl)) Z.cl0 Z.na0_signs rfl) (rss_nil))))) (rss_nil)) (rss_nil)))))))))))
theorem sc_22 : FnScope ["self"] ["self"] (defScope s_22) := ⟨rfl, rfl, rfl, by decide +kernel, rfl, by decide +kernel, by decide +kernel⟩
theorem ok_22 (Z : Txt K mg ev) (L : Lv P w K mg base ev n) : FnOk P w K mg base CX0 (2 * (n + 1) + 2) (ev.fa 22) (ev.fd 22) (nms 22) (spI (gx P w K ev) (evF T pr wf (n + 1)) (ioOf T 22) 22) := by
  refine fn_go (k := 2 * n + 3) (d := d_22) rfl rfl Z.F_22 sc_22 rfl rfl fun cdv A outer s H E hr => ?_
  have hu := Room.u65 hr
  have hu4 := hr.units
  have hr1 : Room (2 * n + 2) _ := hr.mono (Nat.le_succ _)
  have hN := (sc_22).nd
  exact (rss_cons (rs_ret (re_tup (ra_cons (re_fld (ci := 0) (f := 0) (re_var 0) Z.cl0 Z.na0_kind rfl) (ra_cons (re_fld (ci := 0) (f := 1) (re_var 0) Z.cl0 Z.na0_top rfl) (ra_cons (re_fld (ci := 0) (f := 2) (re_var 0) Z.cl0 Z.na0_end rfl) (ra_cons (re_fld (ci := 0) (f := 3) (re_var 0) Z.cl0 Z.na0_limit rfl) (ra_cons (re_biT .tuple rfl rfl rfl Z.n_tuple rfl (ra_cons (re_fld (ci := 0) (f := 4) (re_var 0) Z.cl0 Z.na0_signs rfl) (ra_nil)) bt_tuple) (ra_cons (re_biT .tuple rfl rfl rfl Z.n_tuple rfl (ra_cons (re_fld (ci := 0) (f := 5) (re_var 0) Z.cl0 Z.na0_codes rfl) (ra_nil)) bt_tuple) (ra_nil))))))))) (rss_nil))
theorem sc_23 : FnScope ["self", "sign"] ["self"] (defScope s_23) := ⟨rfl, rfl, rfl, by decide +kernel, rfl, by decide +kernel, by decide +kernel⟩
theorem ok_23 (Z : Txt K mg ev) (L : Lv P w K mg base ev n) : FnOk P w K mg base CX0 (2 * (n + 1) + 2) (ev.fa 23) (ev.fd 23) (nms 23) (spI (gx P w K ev) (evF T pr wf (n + 1)) (ioOf T 23) 23) := by
  refine fn_go (k := 2 * n + 3) (d := d_23) rfl rfl Z.F_23 sc_23 rfl rfl fun cdv A outer s H E hr => ?_
  have hu := Room.u65 hr
  have hu4 := hr.units
  have hr1 : Room (2 * n + 2) _ := hr.mono (Nat.le_succ _)
  have hN := (sc_23).nd
  exact (rss_cons (rs_ret (re_lc [("sign", 1)] rfl hN (ri_rng1 (re_fld (ci := 0) (f := 1) (re_var 0) Z.cl0 Z.na0_top rfl) rfl Z.n_range) (show blkC ["self", "sign"] (defScope s_23) _ [("sign", 1)] = true by decide +kernel) (fun _ _ _ _ _ => (rg_one 1 hN)) (fun _ _ _ _ _ => (rc_some (rt_cmp .ne (re_var 1) (re_fld (ci := 0) (f := 2) (re_var 0) Z.cl0 Z.na0_end rfl) hu))) (fun _ _ _ _ _ => (re_var 1)) (by decide))) (rss_nil))
theorem sc_24 : FnScope ["self", "row", "sign"] ["self", "row"] (defScope s_24) := ⟨rfl, rfl, rfl, by decide +kernel, rfl, by decide +kernel, by decide +kernel⟩
theorem ok_24 (Z : Txt K mg ev) (L : Lv P w K mg base ev n) : FnOk P w K mg base CX0 (2 * (n + 1) + 2) (ev.fa 24) (ev.fd 24) (nms 24) (spI (gx P w K ev) (evF T pr wf (n + 1)) (ioOf T 24) 24) := by
  refine fn_go (k := 2 * n + 3) (d := d_24) rfl rfl Z.F_24 sc_24 rfl rfl fun cdv A outer s H E hr => ?_
  have hu := Room.u65 hr
  have hu4 := hr.units
  have hr1 : Room (2 * n + 2) _ := hr.mono (Nat.le_succ _)
  have hN := (sc_24).nd
  exact (rss_cons (rs_ret (re_lc [("sign", 2)] rfl hN (ri_of (re_var 1)) (show blkC ["self", "row", "sign"] (defScope s_24) _ [("sign", 2)] = true by decide +kernel) (fun _ _ _ _ _ => (rg_one 2 hN)) (fun _ _ _ _ _ => rc_none) (fun _ _ _ _ _ => (re_ix (re_fld (ci := 0) (f := 4) (re_var 0) Z.cl0 Z.na0_signs rfl) (re_var 2))) (by decide))) (rss_nil))
theorem sc_25 : FnScope ["self", "row", "sign"] ["self", "row"] (defScope s_25) := ⟨rfl, rfl, rfl, by decide +kernel, rfl, by decide +kernel, by decide +kernel⟩
theorem ok_25 (Z : Txt K mg ev) (L : Lv P w K mg base ev n) : FnOk P w K mg base CX0 (2 * (n + 1) + 2) (ev.fa 25) (ev.fd 25) (nms 25) (spI (gx P w K ev) (evF T pr wf (n + 1)) (ioOf T 25) 25) := by
  refine fn_go (k := 2 * n + 3) (d := d_25) rfl rfl Z.F_25 sc_25 rfl rfl fun cdv A outer s H E hr => ?_
  have hu := Room.u65 hr
  have hu4 := hr.units
  have hr1 : Room (2 * n + 2) _ := hr.mono (Nat.le_succ _)
  have hN := (sc_25).nd
  exact (rss_cons (rs_ret (re_lc [("sign", 2)] rfl hN (ri_of (re_var 1)) (show blkC ["self", "row", "sign"] (defScope s_25) _ [("sign", 2)] = true by decide +kernel) (fun _ _ _ _ _ => (rg_one 2 hN)) (fun _ _ _ _ _ => rc_none) (fun _ _ _ _ _ => (re_bm .index PySem.F.slot_list_index PySem.F.type_list_index hu4 (re_fld (ci := 0) (f := 4) (re_var 0) Z.cl0 Z.na0_signs rfl) (ra_cons (re_var 2) (ra_nil)))) (by decide))) (rss_nil))
theorem sc_30 : FnScope ["way", "many", "plan", "sign", "sizes", "code", "body"] ["way", "many"] (defScope s_30) := ⟨rfl, rfl, rfl, by decide +kernel, rfl, by decide +kernel, by decide +kernel⟩
theorem ok_30 (Z : Txt K mg ev) (L : Lv P w K mg base ev n) : FnOk P w K mg base CX0 (2 * (n + 1) + 2) (ev.fa 30) (ev.fd 30) (nms 30) (spI (gx P w K ev) (evF T pr wf (n + 1)) (ioOf T 30) 30) := by
  refine fn_go (k := 2 * n + 3) (d := d_30) rfl rfl Z.F_30 sc_30 rfl rfl fun cdv A outer s H E hr => ?_
  have hu := Room.u65 hr
  have hu4 := hr.units
  have hr1 : Room (2 * n + 2) _ := hr.mono (Nat.le_succ _)
  have hN := (sc_30).nd
  exact (rss_cons (rs_asg 2 hN (re_make (ci := 0) Z.mk0 (L 21 _ rfl) hr rfl Z.mc0 Z.b_21 (ra_cons (re_var 0) (ra_nil)))) (rss_cons (rs_asg 3 hN (re_ix (re_meth (ci := 0) (mi := 14) rfl (re_var 2) Z.cl0 Z.mt0_back (L 25 _ rfl) hr1 Z.b_25 (ra_cons (re_lst (ra_cons (re_bin .sub (re_fld (ci := 0) (f := 1) (re_var 2) Z.cl0 Z.na0_top rfl) (re_int)) (ra_nil))) (ra_nil))) (re_int))) (rss_cons (rs_ite (rt_cmp .eq (re_fld (ci := 0) (f := 0) (re_var 2) Z.cl0 Z.na0_kind rfl) (re_str) hu) (rss_cons (rs_asg 3 hN (re_ix (re_meth (ci := 0) (mi := 14) rfl (re_var 2) Z.cl0 Z.mt0_back (L 25 _ rfl) hr1 Z.b_25 (ra_cons (re_sl (re_meth0 (ci := 0) (mi := 12) rfl (re_var 2) Z.cl0 Z.mt0_plain (L 23 _ rfl) hr1 Z.b_23) ro_none (ro_some (re_int))) (ra_nil))) (re_int))) (rss_nil)) (rss_nil)) (rss_cons (rs_ite (rt_cmp .eq (re_fld (ci := 0) (f := 0) (re_var 2) Z.cl0 Z.na0_kind rfl) (re_str) hu) (rss_cons (rs_asgLc 4 [("code", 5)] rfl hN (ri_of (re_fld (ci := 0) (f := 5) (re_var 2) Z.cl0 Z.na0_codes rfl)) (show blkC ["way", "many", "plan", "sign", "sizes", "code", "body"] (defScope s_30) _ [("code", 5)] = true by decide +kernel) (fun _ _ _ _ _ => (rg_one 5 hN)) (fun _ _ _ _ _ => rc_none) (fun _ _ _ _ _ => (re_biB .len rfl rfl rfl Z.n_len rfl (ra_cons (re_var 5) (ra_nil)) bt_len)) (by decide)) (rss_cons (rs_asg 3 hN (re_bm .index PySem.F.slot_list_index PySem.F.type_list_index hu4 (re_var 4) (ra_cons (re_biB .max1 rfl rfl rfl Z.n_max rfl (ra_cons (re_var 4) (ra_nil)) bt_max1) (ra_nil)))) (rss_nil))) (rss_nil)) (rss_cons (rs_asg 6 hN (re_bin .mul (re_lst (ra_cons (re_var 3) (ra_nil))) (re_var 1))) (rss_cons (rs_ret (re_tup (ra_cons (re_bin .add (re_biB .len rfl rfl rfl Z.n_len rfl (ra_cons (re_call (L 5 _ rfl) hr1 rfl Z.m_5 Z.k_5 Z.b_5 (ra_cons (re_var 2) (ra_cons (re_var 6) (ra_nil)))) (ra_nil)) bt_len) (re_int)) (ra_cons (re_var 6) (ra_nil))))) (rss_nil)))))))
theorem sc_31 : FnScope ["plan", "ways", "found", "state", "many", "sign", "told"] ["plan", "ways"] (defScope s_31) := ⟨rfl, rfl, rfl, by decide +kernel, rfl, by decide +kernel, by decide +kernel⟩
theorem ok_31 (Z : Txt K mg ev) (L : Lv P w K mg base ev n) : FnOk P w K mg base CX0 (2 * (n + 1) + 2) (ev.fa 31) (ev.fd 31) (nms 31) (spI (gx P w K ev) (evF T pr wf (n + 1)) (ioOf T 31) 31) := by
  refine fn_go (k := 2 * n + 3) (d := d_31) rfl rfl Z.F_31 sc_31 rfl rfl fun cdv A outer s H E hr => ?_
  have hu := Room.u65 hr
  have hu4 := hr.units
  have hr1 : Room (2 * n + 2) _ := hr.mono (Nat.le_succ _)
  have hN := (sc_31).nd
  exact (rss_cons (rs_asg 2 hN re_dnewN) (rss_cons (rs_for PassesOwn.never rfl (ri_items (re_var 1)) (rg_many (is := [3, 4]) rfl (rgs_cons 3 hN (rgs_cons 4 hN (rgs_nil)))) (rss_cons (rs_for PassesOwn.never rfl (ri_of (re_meth0 (ci := 0) (mi := 12) rfl (re_var 0) Z.cl0 Z.mt0_plain (L 23 _ rfl) hr1 Z.b_23)) (rg_one 5 hN) (rss_cons (rs_asg 6 hN (re_call (L 9 _ rfl) hr1 rfl Z.m_9 Z.k_9 Z.b_9 (ra_cons (re_var 0) (ra_cons (re_var 3) (ra_cons (re_var 5) (ra_nil)))))) (rss_cons (rs_ite (rt_notN (re_var 6)) (rss_cons (rs_setkeyN 2 hu (re_var 2) (re_ix (re_var 6) (re_int)) (re_bin .add (re_dgetN 2 hu (re_var 2) (re_ix (re_var 6) (re_int)) (re_int)) (re_var 4))) (rss_nil)) (rss_nil)) (rss_nil)))) (rss_nil))) (rss_cons (rs_ret (re_var 2)) (rss_nil))))
theorem sc_32 : FnScope ["way", "size", "plan", "ways", "turn", "state", "many"] ["way", "size"] (defScope s_32) := ⟨rfl, rfl, rfl, by decide +kernel, rfl, by decide +kernel, by decide +kernel⟩
theorem ok_32 (Z : Txt K mg ev) (L : Lv P w K mg base ev n) : FnOk P w K mg base CX0 (2 * (n + 1) + 2) (ev.fa 32) (ev.fd 32) (nms 32) (spI (gx P w K ev) (evF T pr wf (n + 1)) (ioOf T 32) 32) := by
  refine fn_go (k := 2 * n + 3) (d := d_32) rfl rfl Z.F_32 sc_32 rfl rfl fun cdv A outer s H E hr => ?_
  have hu := Room.u65 hr
  have hu4 := hr.units
  have hr1 : Room (2 * n + 2) _ := hr.mono (Nat.le_succ _)
  have hN := (sc_32).nd
  exact (rss_cons (rs_asg 2 hN (re_make (ci := 0) Z.mk0 (L 21 _ rfl) hr rfl Z.mc0 Z.b_21 (ra_cons (re_var 0) (ra_nil)))) (rss_cons (rs_ite (rt_cmp .lt (re_var 1) (re_int) hu) (rss_cons (rs_ret (re_int)) (rss_nil)) (rss_nil)) (rss_cons (rs_ite (rt_cmp .eq (re_fld (ci := 0) (f := 0) (re_var 2) Z.cl0 Z.na0_kind rfl) (re_str) hu) (rss_cons (rs_ret (re_call (L 33 _ rfl) hr1 rfl Z.m_33 Z.k_33 Z.b_33 (ra_cons (re_bin .sub (re_fld (ci := 0) (f := 1) (re_var 2) Z.cl0 Z.na0_top rfl) (re_int)) (ra_cons (re_bin .sub (re_var 1) (re_int)) (ra_nil))))) (rss_nil)) (rss_nil)) (rss_cons (rs_asg 3 hN (re_ddispN hu (re_call (L 6 _ rfl) hr1 rfl Z.m_6 Z.k_6 Z.b_6 (ra_cons (re_var 2) (ra_nil))) (re_int))) (rss_cons (rs_for PassesOwn.never rfl (ri_rng1 (re_bin .sub (re_var 1) (re_int)) rfl Z.n_range) (rg_one 4 hN) (rss_cons (rs_asg 3 hN (re_call (L 31 _ rfl) hr1 rfl Z.m_31 Z.k_31 Z.b_31 (ra_cons (re_var 2) (ra_cons (re_var 3) (ra_nil))))) (rss_nil))) (rss_cons (rs_ret (re_biB .sum rfl rfl rfl Z.n_sum rfl (ra_cons (re_lc [("state", 5), ("many", 6)] rfl hN (ri_items (re_var 3)) (show blkC ["way", "size", "plan", "ways", "turn", "state", "many"] (defScope s_32) _ [("state", 5), ("many", 6)] = true by decide +kernel) (fun _ _ _ _ _ => (rg_many (is := [5, 6]) rfl (rgs_cons 5 hN (rgs_cons 6 hN (rgs_nil))))) (fun _ _ _ _ _ => (rc_some (rt_notN (re_call (L 10 _ rfl) hr1 rfl Z.m_10 Z.k_10 Z.b_10 (ra_cons (re_var 2) (ra_cons (re_var 5) (ra_nil))))))) (fun _ _ _ _ _ => (re_var 6)) (by decide)) (ra_nil)) bt_sum)) (rss_nil)))))))
theorem sc_33 : FnScope ["one", "times", "found", "turn"] ["one", "times"] (defScope s_33) := ⟨rfl, rfl, rfl, by decide +kernel, rfl, by decide +kernel, by decide +kernel⟩
theorem ok_33 (Z : Txt K mg ev) (L : Lv P w K mg base ev n) : FnOk P w K mg base CX0 (2 * (n + 1) + 2) (ev.fa 33) (ev.fd 33) (nms 33) (spI (gx P w K ev) (evF T pr wf (n + 1)) (ioOf T 33) 33) := by
  refine fn_go (k := 2 * n + 3) (d := d_33) rfl rfl Z.F_33 sc_33 rfl rfl fun cdv A outer s H E hr => ?_
  have hu := Room.u65 hr
  have hu4 := hr.units
  have hr1 : Room (2 * n + 2) _ := hr.mono (Nat.le_succ _)
  have hN := (sc_33).nd
  exact (rss_cons (rs_asg 2 hN (re_int)) (rss_cons (rs_for PassesOwn.never rfl (ri_rng1 (re_var 1) rfl Z.n_range) (rg_one 3 hN) (rss_cons (rs_asg 2 hN (re_bin .mul (re_var 2) (re_var 0))) (rss_nil))) (rss_cons (rs_ret (re_var 2)) (rss_nil))))
theorem sc_50 : FnScope ["_law_script", "_law_k", "_law_found", "_law_cell"] ["_law_script", "_law_k"] (defScope s_50) := ⟨rfl, rfl, rfl, by decide +kernel, rfl, by decide +kernel, by decide +kernel⟩
theorem ok_50 (Z : Txt K mg ev) (L : Lv P w K mg base ev n) : FnOk P w K mg base CX0 (2 * (n + 1) + 2) (ev.fa 50) (ev.fd 50) (nms 50) (spI (gx P w K ev) (evF T pr wf (n + 1)) (ioOf T 50) 50) := by
  refine fn_go (k := 2 * n + 3) (d := d_50) rfl rfl Z.F_50 sc_50 rfl rfl fun cdv A outer s H E hr => ?_
  have hu := Room.u65 hr
  have hu4 := hr.units
  have hr1 : Room (2 * n + 2) _ := hr.mono (Nat.le_succ _)
  have hN := (sc_50).nd
  exact (rss_cons (rs_asg 2 hN (re_var 1)) (rss_cons (rs_for PassesOwn.never rfl (ri_of (re_var 0)) (rg_one 3 hN) (rss_cons (rs_asg 2 hN (re_bin .mod (re_bin .add (re_bin .mul (re_var 2) (re_int)) (re_biB .abs rfl rfl rfl Z.n_abs rfl (ra_cons (re_var 3) (ra_nil)) bt_abs)) (re_int))) (rss_nil))) (rss_cons (rs_ret (re_bin .add (re_lst (ra_cons (re_var 2) (ra_cons (re_int) (ra_nil)))) (re_lc [("_law_cell", 3)] rfl hN (ri_of (re_var 0)) (show blkC ["_law_script", "_law_k", "_law_found", "_law_cell"] (defScope s_50) _ [("_law_cell", 3)] = true by decide +kernel) (fun _ _ _ _ _ => (rg_one 3 hN)) (fun _ _ _ _ _ => (rc_some (rt_cmp .ge (re_var 3) (re_bin .pow (re_int) (re_int)) hu))) (fun _ _ _ _ _ => (re_var 3)) (by decide)))) (rss_nil))))
theorem sc_51 : FnScope ["_law_d", "_law_most", "_law_found"] ["_law_d", "_law_most"] (defScope s_51) := ⟨rfl, rfl, rfl, by decide +kernel, rfl, by decide +kernel, by decide +kernel⟩
theorem ok_51 (Z : Txt K mg ev) (L : Lv P w K mg base ev n) : FnOk P w K mg base CX0 (2 * (n + 1) + 2) (ev.fa 51) (ev.fd 51) (nms 51) (spI (gx P w K ev) (evF T pr wf (n + 1)) (ioOf T 51) 51) := by
  refine fn_go (k := 2 * n + 3) (d := d_51) rfl rfl Z.F_51 sc_51 rfl rfl fun cdv A outer s H E hr => ?_
  have hu := Room.u65 hr
  have hu4 := hr.units
  have hr1 : Room (2 * n + 2) _ := hr.mono (Nat.le_succ _)
  have hN := (sc_51).nd
  exact (rss_cons (rs_ite (L2.PW.pt (rt_and (rt_cmp .eq (re_ix (re_var 0) (re_int)) (re_int) hu) (rt_and1 (rt_cmp .gt (re_biB .len rfl rfl rfl Z.n_len rfl (ra_cons (re_var 0) (ra_nil)) bt_len) (re_int) hu)))) (rss_cons (rs_setix (re_var 0) (re_int) (re_bm .pop1 PySem.F.slot_list_pop PySem.F.type_list_pop hu4 (re_var 0) (ra_cons (re_int) (ra_nil)))) (rss_nil)) (rss_nil)) (rss_cons (rs_ite (rt_cmp .gt (re_ix (re_var 0) (re_int)) (re_int) hu) (rss_cons (rs_asg 2 hN (re_bin .mod (re_ix (re_var 0) (re_int)) (re_var 1))) (rss_cons (rs_setix (re_var 0) (re_int) (re_bin .fdiv (re_ix (re_var 0) (re_int)) (re_var 1))) (rss_cons (rs_ret (re_var 2)) (rss_nil)))) (rss_nil)) (rss_cons (rs_setix (re_var 0) (re_int) (re_bin .mod (re_bin .add (re_bin .mul (re_ix (re_var 0) (re_int)) (re_int)) (re_int)) (re_int))) (rss_cons (rs_ret (re_bin .mod (re_bin .fdiv (re_ix (re_var 0) (re_int)) (re_int)) (re_var 1))) (rss_nil)))))
theorem sc_52 : FnScope ["_law_found", "_law_due", "_law_k"] ["_law_found", "_law_due"] (defScope s_52) := ⟨rfl, rfl, rfl, by decide +kernel, rfl, by decide +kernel, by decide +kernel⟩
theorem ok_52 (Z : Txt K mg ev) (L : Lv P w K mg base ev n) : FnOk P w K mg base CX0 (2 * (n + 1) + 2) (ev.fa 52) (ev.fd 52) (nms 52) (spI (gx P w K ev) (evF T pr wf (n + 1)) (ioOf T 52) 52) := by
  refine fn_go (k := 2 * n + 3) (d := d_52) rfl rfl Z.F_52 sc_52 rfl rfl fun cdv A outer s H E hr => ?_
  have hu := Room.u65 hr
  have hu4 := hr.units
  have hr1 : Room (2 * n + 2) _ := hr.mono (Nat.le_succ _)
  have hN := (sc_52).nd
  exact (rss_cons (rs_ite (rt_isN (re_var 1)) (rss_cons (rs_ret (re_isN (re_var 0))) (rss_nil)) (rss_nil)) (rss_cons (rs_ite (rt_val (re_isi .isB rfl rfl Z.n_isinstance bt_isinstance rfl Z.n_bool bt_tbool (re_var 1))) (rss_cons (rs_ret (re_and (re_isi .isB rfl rfl Z.n_isinstance bt_isinstance rfl Z.n_bool bt_tbool (re_var 0)) (re_and1 (re_cmp .eq (re_var 0) (re_var 1) hu)))) (rss_nil)) (rss_nil)) (rss_cons (rs_ite (rt_val (re_isi .isI rfl rfl Z.n_isinstance bt_isinstance rfl Z.n_int bt_tint (re_var 1))) (rss_cons (rs_ret (re_and (re_isi .isI rfl rfl Z.n_isinstance bt_isinstance rfl Z.n_int bt_tint (re_var 0)) (re_and (re_not (re_isi .isB rfl rfl Z.n_isinstance bt_isinstance rfl Z.n_bool bt_tbool (re_var 0))) (re_and1 (re_cmp .eq (re_var 0) (re_var 1) hu))))) (rss_nil)) (rss_nil)) (rss_cons (rs_ite (rt_val (re_isi .isS rfl rfl Z.n_isinstance bt_isinstance rfl Z.n_str bt_tstr (re_var 1))) (rss_cons (rs_ret (re_and (re_isi .isS rfl rfl Z.n_isinstance bt_isinstance rfl Z.n_str bt_tstr (re_var 0)) (re_and1 (re_cmp .eq (re_var 0) (re_var 1) hu)))) (rss_nil)) (rss_nil)) (rss_cons (rs_ite (L2.PW.pt (rt_or (rt_cmp .ne (re_isi .isT rfl rfl Z.n_isinstance bt_isinstance rfl Z.n_tuple bt_ttuple (re_var 1)) (re_isi .isT rfl rfl Z.n_isinstance bt_isinstance rfl Z.n_tuple bt_ttuple (re_var 0)) hu) (rt_or1 (rt_cmp .ne (re_isi .isL rfl rfl Z.n_isinstance bt_isinstance rfl Z.n_list bt_tlist (re_var 1)) (re_isi .isL rfl rfl Z.n_isinstance bt_isinstance rfl Z.n_list bt_tlist (re_var 0)) hu)))) (rss_cons (rs_ret (re_bl)) (rss_nil)) (rss_nil)) (rss_cons (rs_ite (rt_cmp .ne (re_biB .len rfl rfl rfl Z.n_len rfl (ra_cons (re_var 0) (ra_nil)) bt_len) (re_biB .len rfl rfl rfl Z.n_len rfl (ra_cons (re_var 1) (ra_nil)) bt_len) hu) (rss_cons (rs_ret (re_bl)) (rss_nil)) (rss_nil)) (rss_cons (rs_ret (re_biB .all rfl rfl rfl Z.n_all rfl (ra_cons (re_lc [("_law_k", 2)] rfl hN (ri_rng1 (re_biB .len rfl rfl rfl Z.n_len rfl (ra_cons (re_var 1) (ra_nil)) bt_len) rfl Z.n_range) (show blkC ["_law_found", "_law_due", "_law_k"] (defScope s_52) _ [("_law_k", 2)] = true by decide +kernel) (fun _ _ _ _ _ => (rg_one 2 hN)) (fun _ _ _ _ _ => rc_none) (fun _ _ _ _ _ => (re_call (L 52 _ rfl) hr1 rfl Z.m_52 Z.k_52 Z.b_52 (ra_cons (re_ix (re_var 0) (re_var 2)) (ra_cons (re_ix (re_var 1) (re_var 2)) (ra_nil))))) (by decide)) (ra_nil)) bt_all)) (rss_nil))))))))
theorem sc_53 : FnScope ["_law_d", "_law_row", "_law_left", "_law_found"] ["_law_d", "_law_row"] (defScope s_53) := ⟨rfl, rfl, rfl, by decide +kernel, rfl, by decide +kernel, by decide +kernel⟩
theorem ok_53 (Z : Txt K mg ev) (L : Lv P w K mg base ev n) : FnOk P w K mg base CX0 (2 * (n + 1) + 2) (ev.fa 53) (ev.fd 53) (nms 53) (spI (gx P w K ev) (evF T pr wf (n + 1)) (ioOf T 53) 53) := by
  refine fn_go (k := 2 * n + 3) (d := d_53) rfl rfl Z.F_53 sc_53 rfl rfl fun cdv A outer s H E hr => ?_
  have hu := Room.u65 hr
  have hu4 := hr.units
  have hr1 : Room (2 * n + 2) _ := hr.mono (Nat.le_succ _)
  have hN := (sc_53).nd
  exact (rss_cons (rs_asg 2 hN (re_biT .list rfl rfl rfl Z.n_list rfl (ra_cons (re_var 1) (ra_nil)) bt_list)) (rss_cons (rs_asg 3 hN (re_lst (ra_nil))) (rss_cons (rs_whl PassesOwn.never (rt_cmp .ne (re_var 2) (re_lst (ra_nil)) hu) (rss_cons (rs_ex (re_bm .append PySem.F.slot_list_append PySem.F.type_list_append hu4 (re_var 3) (ra_cons (re_bm .pop1 PySem.F.slot_list_pop PySem.F.type_list_pop hu4 (re_var 2) (ra_cons (re_call (L 51 _ rfl) hr1 rfl Z.m_51 Z.k_51 Z.b_51 (ra_cons (re_var 0) (ra_cons (re_biB .len rfl rfl rfl Z.n_len rfl (ra_cons (re_var 2) (ra_nil)) bt_len) (ra_nil)))) (ra_nil))) (ra_nil)))) (rss_nil))) (rss_cons (rs_ret (re_var 3)) (rss_nil)))))
theorem sc_54 : FnScope ["_law_top_here", "_law_end", "_law_sign"] ["_law_top_here", "_law_end"] (defScope s_54) := ⟨rfl, rfl, rfl, by decide +kernel, rfl, by decide +kernel, by decide +kernel⟩
theorem ok_54 (Z : Txt K mg ev) (L : Lv P w K mg base ev n) : FnOk P w K mg base CX0 (2 * (n + 1) + 2) (ev.fa 54) (ev.fd 54) (nms 54) (spI (gx P w K ev) (evF T pr wf (n + 1)) (ioOf T 54) 54) := by
  refine fn_go (k := 2 * n + 3) (d := d_54) rfl rfl Z.F_54 sc_54 rfl rfl fun cdv A outer s H E hr => ?_
  have hu := Room.u65 hr
  have hu4 := hr.units
  have hr1 : Room (2 * n + 2) _ := hr.mono (Nat.le_succ _)
  have hN := (sc_54).nd
  exact (rss_cons (rs_ret (re_lc [("_law_sign", 2)] rfl hN (ri_rng1 (re_var 0) rfl Z.n_range) (show blkC ["_law_top_here", "_law_end", "_law_sign"] (defScope s_54) _ [("_law_sign", 2)] = true by decide +kernel) (fun _ _ _ _ _ => (rg_one 2 hN)) (fun _ _ _ _ _ => (rc_some (rt_cmp .ne (re_var 2) (re_var 1) hu))) (fun _ _ _ _ _ => (re_var 2)) (by decide))) (rss_nil))
theorem sc_55 : FnScope ["_law_d", "_law_top_here", "_law_end", "_law_plain_here", "_law_leaves", "_law_sign", "_law_turn", "_law_short", "_law_code"] ["_law_d", "_law_top_here", "_law_end"] (defScope s_55) := ⟨rfl, rfl, rfl, by decide +kernel, rfl, by decide +kernel, by decide +kernel⟩
theorem ok_55 (Z : Txt K mg ev) (L : Lv P w K mg base ev n) : FnOk P w K mg base CX0 (2 * (n + 1) + 2) (ev.fa 55) (ev.fd 55) (nms 55) (spI (gx P w K ev) (evF T pr wf (n + 1)) (ioOf T 55) 55) := by
  refine fn_go (k := 2 * n + 3) (d := d_55) rfl rfl Z.F_55 sc_55 rfl rfl fun cdv A outer s H E hr => ?_
  have hu := Room.u65 hr
  have hu4 := hr.units
  have hr1 : Room (2 * n + 2) _ := hr.mono (Nat.le_succ _)
  have hN := (sc_55).nd
  exact (rss_cons (rs_asg 3 hN (re_call (L 54 _ rfl) hr1 rfl Z.m_54 Z.k_54 Z.b_54 (ra_cons (re_var 1) (ra_cons (re_var 2) (ra_nil))))) (rss_cons (rs_asgLc 4 [("_law_sign", 5)] rfl hN (ri_of (re_var 3)) (show blkC ["_law_d", "_law_top_here", "_law_end", "_law_plain_here", "_law_leaves", "_law_sign", "_law_turn", "_law_short", "_law_code"] (defScope s_55) _ [("_law_sign", 5)] = true by decide +kernel) (fun _ _ _ _ _ => (rg_one 5 hN)) (fun _ _ _ _ _ => rc_none) (fun _ _ _ _ _ => (re_tup (ra_cons (re_var 5) (ra_nil)))) (by decide)) (rss_cons (rs_for PassesOwn.never rfl (ri_rng1 (re_bin .add (re_int) (re_call (L 51 _ rfl) hr1 rfl Z.m_51 Z.k_51 Z.b_51 (ra_cons (re_var 0) (ra_cons (re_int) (ra_nil))))) rfl Z.n_range) (rg_one 6 hN) (rss_cons (rs_asgLcO 7 4 [("_law_code", 8)] rfl hN (show blkC ["_law_d", "_law_top_here", "_law_end", "_law_plain_here", "_law_leaves", "_law_sign", "_law_turn", "_law_short", "_law_code"] (defScope s_55) _ [("_law_code", 8)] = true by decide +kernel) (fun _ _ _ _ _ => (rg_one 8 hN)) (fun _ _ _ _ _ => (rc_some (rt_cmp .lt (re_biB .len rfl rfl rfl Z.n_len rfl (ra_cons (re_var 8) (ra_nil)) bt_len) (re_int) hu))) (fun _ _ _ _ _ => (re_var 8)) (by decide)) (rss_cons (rs_asg 8 hN (re_ix (re_var 7) (re_call (L 51 _ rfl) hr1 rfl Z.m_51 Z.k_51 Z.b_51 (ra_cons (re_var 0) (ra_cons (re_biB .len rfl rfl rfl Z.n_len rfl (ra_cons (re_var 7) (ra_nil)) bt_len) (ra_nil)))))) (rss_cons (rs_ex (re_bm .remove PySem.F.slot_list_remove PySem.F.type_list_remove hu4 (re_var 4) (ra_cons (re_var 8) (ra_nil)))) (rss_cons (rs_asg 4 hN (re_bin .add (re_var 4) (re_lc [("_law_sign", 5)] rfl hN (ri_of (re_var 3)) (show blkC ["_law_d", "_law_top_here", "_law_end", "_law_plain_here", "_law_leaves", "_law_sign", "_law_turn", "_law_short", "_law_code"] (defScope s_55) _ [("_law_sign", 5)] = true by decide +kernel) (fun _ _ _ _ _ => (rg_one 5 hN)) (fun _ _ _ _ _ => rc_none) (fun _ _ _ _ _ => (re_bin .add (re_var 8) (re_tup (ra_cons (re_var 5) (ra_nil))))) (by decide)))) (rss_nil)))))) (rss_cons (rs_ret (re_tup (ra_cons (re_str) (ra_cons (re_var 1) (ra_cons (re_var 2) (ra_cons (re_biT .tuple rfl rfl rfl Z.n_tuple rfl (ra_cons (re_sl (re_call (L 53 _ rfl) hr1 rfl Z.m_53 Z.k_53 Z.b_53 (ra_cons (re_var 0) (ra_cons (re_var 4) (ra_nil)))) ro_none (ro_some (re_var 1))) (ra_nil)) bt_tuple) (ra_nil))))))) (rss_nil)))))
theorem sc_56 : FnScope ["_law_d", "_law_top_here", "_law_end", "_law_plain_here", "_law_mark", "_law_more", "_law_sign", "_law_signs", "_law_codes_here", "_law_k"] ["_law_d", "_law_top_here", "_law_end"] (defScope s_56) := ⟨rfl, rfl, rfl, by decide +kernel, rfl, by decide +kernel, by decide +kernel⟩
theorem ok_56 (Z : Txt K mg ev) (L : Lv P w K mg base ev n) : FnOk P w K mg base CX0 (2 * (n + 1) + 2) (ev.fa 56) (ev.fd 56) (nms 56) (spI (gx P w K ev) (evF T pr wf (n + 1)) (ioOf T 56) 56) := by
  refine fn_go (k := 2 * n + 3) (d := d_56) rfl rfl Z.F_56 sc_56 rfl rfl fun cdv A outer s H E hr => ?_
  have hu := Room.u65 hr
  have hu4 := hr.units
  have hr1 : Room (2 * n + 2) _ := hr.mono (Nat.le_succ _)
  have hN := (sc_56).nd
  exact (rss_cons (rs_asg 3 hN (re_call (L 54 _ rfl) hr1 rfl Z.m_54 Z.k_54 Z.b_54 (ra_cons (re_var 1) (ra_cons (re_var 2) (ra_nil))))) (rss_cons (rs_asg 4 hN (re_ix (re_var 3) (re_call (L 51 _ rfl) hr1 rfl Z.m_51 Z.k_51 Z.b_51 (ra_cons (re_var 0) (ra_cons (re_biB .len rfl rfl rfl Z.n_len rfl (ra_cons (re_var 3) (ra_nil)) bt_len) (ra_nil)))))) (rss_cons (rs_asgLc 5 [("_law_sign", 6)] rfl hN (ri_of (re_var 3)) (show blkC ["_law_d", "_law_top_here", "_law_end", "_law_plain_here", "_law_mark", "_law_more", "_law_sign", "_law_signs", "_law_codes_here", "_law_k"] (defScope s_56) _ [("_law_sign", 6)] = true by decide +kernel) (fun _ _ _ _ _ => (rg_one 6 hN)) (fun _ _ _ _ _ => (rc_some (L2.PW.pt (rt_and (rt_cmp .ne (re_var 6) (re_var 4) hu) (rt_and1 (rt_cmp .eq (re_call (L 51 _ rfl) hr1 rfl Z.m_51 Z.k_51 Z.b_51 (ra_cons (re_var 0) (ra_cons (re_int) (ra_nil)))) (re_int) hu)))))) (fun _ _ _ _ _ => (re_var 6)) (by decide)) (rss_cons (rs_asg 7 hN (re_biB .sorted rfl rfl rfl Z.n_sorted rfl (ra_cons (re_bin .add (re_lst (ra_cons (re_var 2) (ra_cons (re_var 4) (ra_nil)))) (re_sl (re_var 5) ro_none (ro_some (re_bin .sub (re_var 1) (re_int))))) (ra_nil)) bt_sorted)) (rss_cons (rs_asg 8 hN (re_call (L 53 _ rfl) hr1 rfl Z.m_53 Z.k_53 Z.b_53 (ra_cons (re_var 0) (ra_cons (re_var 3) (ra_nil))))) (rss_cons (rs_ret (re_tup (ra_cons (re_str) (ra_cons (re_var 1) (ra_cons (re_var 2) (ra_cons (re_var 4) (ra_cons (re_biT .tuple rfl rfl rfl Z.n_tuple rfl (ra_cons (re_lc [("_law_k", 9)] rfl hN (ri_rng1 (re_biB .len rfl rfl rfl Z.n_len rfl (ra_cons (re_var 7) (ra_nil)) bt_len) rfl Z.n_range) (show blkC ["_law_d", "_law_top_here", "_law_end", "_law_plain_here", "_law_mark", "_law_more", "_law_sign", "_law_signs", "_law_codes_here", "_law_k"] (defScope s_56) _ [("_law_k", 9)] = true by decide +kernel) (fun _ _ _ _ _ => (rg_one 9 hN)) (fun _ _ _ _ _ => rc_none) (fun _ _ _ _ _ => (re_tup (ra_cons (re_ix (re_var 7) (re_var 9)) (ra_cons (re_ix (re_var 8) (re_var 9)) (ra_nil))))) (by decide)) (ra_nil)) bt_tuple) (ra_nil)))))))) (rss_nil)))))))
theorem sc_57 : FnScope ["_law_d", "_law_top_here", "_law_end", "_law_kind"] ["_law_d", "_law_top_here"] (defScope s_57) := ⟨rfl, rfl, rfl, by decide +kernel, rfl, by decide +kernel, by decide +kernel⟩
theorem ok_57 (Z : Txt K mg ev) (L : Lv P w K mg base ev n) : FnOk P w K mg base CX0 (2 * (n + 1) + 2) (ev.fa 57) (ev.fd 57) (nms 57) (spI (gx P w K ev) (evF T pr wf (n + 1)) (ioOf T 57) 57) := by
  refine fn_go (k := 2 * n + 3) (d := d_57) rfl rfl Z.F_57 sc_57 rfl rfl fun cdv A outer s H E hr => ?_
  have hu := Room.u65 hr
  have hu4 := hr.units
  have hr1 : Room (2 * n + 2) _ := hr.mono (Nat.le_succ _)
  have hN := (sc_57).nd
  exact (rss_cons (rs_asg 2 hN (re_call (L 51 _ rfl) hr1 rfl Z.m_51 Z.k_51 Z.b_51 (ra_cons (re_var 0) (ra_cons (re_var 1) (ra_nil))))) (rss_cons (rs_asg 3 hN (re_call (L 51 _ rfl) hr1 rfl Z.m_51 Z.k_51 Z.b_51 (ra_cons (re_var 0) (ra_cons (re_int) (ra_nil))))) (rss_cons (rs_ite (rt_cmp .lt (re_var 3) (re_int) hu) (rss_cons (rs_ret (re_call (L 55 _ rfl) hr1 rfl Z.m_55 Z.k_55 Z.b_55 (ra_cons (re_var 0) (ra_cons (re_var 1) (ra_cons (re_var 2) (ra_nil)))))) (rss_nil)) (rss_nil)) (rss_cons (rs_ite (rt_cmp .eq (re_var 3) (re_int) hu) (rss_cons (rs_ret (re_call (L 56 _ rfl) hr1 rfl Z.m_56 Z.k_56 Z.b_56 (ra_cons (re_var 0) (ra_cons (re_var 1) (ra_cons (re_var 2) (ra_nil)))))) (rss_nil)) (rss_nil)) (rss_cons (rs_ite (rt_cmp .eq (re_var 3) (re_int) hu) (rss_cons (rs_ret (re_tup (ra_cons (re_str) (ra_cons (re_var 1) (ra_cons (re_var 2) (ra_nil)))))) (rss_nil)) (rss_nil)) (rss_cons (rs_ret (re_tup (ra_cons (re_str) (ra_cons (re_var 1) (ra_cons (re_var 2) (ra_cons (re_ife (rt_cmp .gt (re_var 1) (re_int) hu) (re_ix (re_lst (ra_cons (re_int) (ra_cons (re_int) (ra_cons (re_bin .sub (re_var 1) (re_int)) (ra_cons (re_bin .add (re_int) (re_call (L 51 _ rfl) hr1 rfl Z.m_51 Z.k_51 Z.b_51 (ra_cons (re_var 0) (ra_cons (re_bin .sub (re_var 1) (re_int)) (ra_nil))))) (ra_nil)))))) (re_call (L 51 _ rfl) hr1 rfl Z.m_51 Z.k_51 Z.b_51 (ra_cons (re_var 0) (ra_cons (re_int) (ra_nil))))) (re_int)) (ra_nil))))))) (rss_nil)))))))
theorem sc_58 : FnScope ["_law_d", "_law_way_here", "_law_most", "_law_turn"] ["_law_d", "_law_way_here", "_law_most"] (defScope s_58) := ⟨rfl, rfl, rfl, by decide +kernel, rfl, by decide +kernel, by decide +kernel⟩
theorem ok_58 (Z : Txt K mg ev) (L : Lv P w K mg base ev n) : FnOk P w K mg base CX0 (2 * (n + 1) + 2) (ev.fa 58) (ev.fd 58) (nms 58) (spI (gx P w K ev) (evF T pr wf (n + 1)) (ioOf T 58) 58) := by
  refine fn_go (k := 2 * n + 3) (d := d_58) rfl rfl Z.F_58 sc_58 rfl rfl fun cdv A outer s H E hr => ?_
  have hu := Room.u65 hr
  have hu4 := hr.units
  have hr1 : Room (2 * n + 2) _ := hr.mono (Nat.le_succ _)
  have hN := (sc_58).nd
  exact (rss_cons (rs_for PassesOwn.never rfl (ri_rng1 (re_ix (re_lst (ra_cons (re_int) (ra_cons (re_int) (ra_cons (re_int) (ra_cons (re_var 2) (ra_nil)))))) (re_call (L 51 _ rfl) hr1 rfl Z.m_51 Z.k_51 Z.b_51 (ra_cons (re_var 0) (ra_cons (re_int) (ra_nil))))) rfl Z.n_range) (rg_one 3 hN) (rss_cons (rs_asg 1 hN (re_tup (ra_cons (re_str) (ra_cons (re_biT .tuple rfl rfl rfl Z.n_tuple rfl (ra_cons (re_call (L 53 _ rfl) hr1 rfl Z.m_53 Z.k_53 Z.b_53 (ra_cons (re_var 0) (ra_cons (re_listRange rfl rfl Z.n_list rfl Z.n_range (re_call (L 60 _ rfl) hr1 rfl Z.m_60 Z.k_60 Z.b_60 (ra_cons (re_var 1) (ra_nil)))) (ra_nil)))) (ra_nil)) bt_tuple) (ra_cons (re_var 1) (ra_nil)))))) (rss_nil))) (rss_cons (rs_ret (re_var 1)) (rss_nil)))
theorem sc_59 : FnScope ["_law_way_here"] ["_law_way_here"] (defScope s_59) := ⟨rfl, rfl, rfl, by decide +kernel, rfl, by decide +kernel, by decide +kernel⟩
theorem ok_59 (Z : Txt K mg ev) (L : Lv P w K mg base ev n) : FnOk P w K mg base CX0 (2 * (n + 1) + 2) (ev.fa 59) (ev.fd 59) (nms 59) (spI (gx P w K ev) (evF T pr wf (n + 1)) (ioOf T 59) 59) := by
  refine fn_go (k := 2 * n + 3) (d := d_59) rfl rfl Z.F_59 sc_59 rfl rfl fun cdv A outer s H E hr => ?_
  have hu := Room.u65 hr
  have hu4 := hr.units
  have hr1 : Room (2 * n + 2) _ := hr.mono (Nat.le_succ _)
  have hN := (sc_59).nd
  exact (rss_cons (rs_whl PassesOwn.never (rt_cmp .eq (re_ix (re_var 0) (re_int)) (re_str) hu) (rss_cons (rs_asg 0 hN (re_ix (re_var 0) (re_int))) (rss_nil))) (rss_cons (rs_ret (re_var 0)) (rss_nil)))
theorem sc_60 : FnScope ["_law_way_here"] ["_law_way_here"] (defScope s_60) := ⟨rfl, rfl, rfl, by decide +kernel, rfl, by decide +kernel, by decide +kernel⟩
theorem ok_60 (Z : Txt K mg ev) (L : Lv P w K mg base ev n) : FnOk P w K mg base CX0 (2 * (n + 1) + 2) (ev.fa 60) (ev.fd 60) (nms 60) (spI (gx P w K ev) (evF T pr wf (n + 1)) (ioOf T 60) 60) := by
  refine fn_go (k := 2 * n + 3) (d := d_60) rfl rfl Z.F_60 sc_60 rfl rfl fun cdv A outer s H E hr => ?_
  have hu := Room.u65 hr
  have hu4 := hr.units
  have hr1 : Room (2 * n + 2) _ := hr.mono (Nat.le_succ _)
  have hN := (sc_60).nd
  exact (rss_cons (rs_ret (re_ix (re_call (L 59 _ rfl) hr1 rfl Z.m_59 Z.k_59 Z.b_59 (ra_cons (re_var 0) (ra_nil))) (re_int))) (rss_nil))
theorem sc_62 : FnScope ["_law_d"] ["_law_d"] (defScope s_62) := ⟨rfl, rfl, rfl, by decide +kernel, rfl, by decide +kernel, by decide +kernel⟩
theorem ok_62 (Z : Txt K mg ev) (L : Lv P w K mg base ev n) : FnOk P w K mg base CX0 (2 * (n + 1) + 2) (ev.fa 62) (ev.fd 62) (nms 62) (spI (gx P w K ev) (evF T pr wf (n + 1)) (ioOf T 62) 62) := by
  refine fn_go (k := 2 * n + 3) (d := d_62) rfl rfl Z.F_62 sc_62 rfl rfl fun cdv A outer s H E hr => ?_
  have hu := Room.u65 hr
  have hu4 := hr.units
  have hr1 : Room (2 * n + 2) _ := hr.mono (Nat.le_succ _)
  have hN := (sc_62).nd
  exact (rss_cons (rs_ret (re_ix (re_lst (ra_cons (re_int) (ra_cons (re_int) (ra_cons (re_int) (ra_cons (re_int) (ra_cons (re_int) (ra_cons (re_bin .add (re_int) (re_bin .mod (re_bin .fdiv (re_ix (re_var 0) (re_int)) (re_int)) (re_int))) (ra_cons (re_int) (ra_cons (re_int) (ra_nil)))))))))) (re_call (L 51 _ rfl) hr1 rfl Z.m_51 Z.k_51 Z.b_51 (ra_cons (re_var 0) (ra_cons (re_int) (ra_nil)))))) (rss_nil))
theorem sc_63 : FnScope ["_law_d"] ["_law_d"] (defScope s_63) := ⟨rfl, rfl, rfl, by decide +kernel, rfl, by decide +kernel, by decide +kernel⟩
theorem ok_63 (Z : Txt K mg ev) (L : Lv P w K mg base ev n) : FnOk P w K mg base CX0 (2 * (n + 1) + 2) (ev.fa 63) (ev.fd 63) (nms 63) (spI (gx P w K ev) (evF T pr wf (n + 1)) (ioOf T 63) 63) := by
  refine fn_go (k := 2 * n + 3) (d := d_63) rfl rfl Z.F_63 sc_63 rfl rfl fun cdv A outer s H E hr => ?_
  have hu := Room.u65 hr
  have hu4 := hr.units
  have hr1 : Room (2 * n + 2) _ := hr.mono (Nat.le_succ _)
  have hN := (sc_63).nd
  exact (rss_cons (rs_ret (re_call (L 58 _ rfl) hr1 rfl Z.m_58 Z.k_58 Z.b_58 (ra_cons (re_var 0) (ra_cons (re_call (L 57 _ rfl) hr1 rfl Z.m_57 Z.k_57 Z.b_57 (ra_cons (re_var 0) (ra_cons (re_call (L 62 _ rfl) hr1 rfl Z.m_62 Z.k_62 Z.b_62 (ra_cons (re_var 0) (ra_nil))) (ra_nil)))) (ra_cons (re_int) (ra_nil)))))) (rss_nil))
theorem sc_72 : FnScope ["_law_one", "_law_times", "_law_found", "_law_turn"] ["_law_one", "_law_times"] (defScope s_72) := ⟨rfl, rfl, rfl, by decide +kernel, rfl, by decide +kernel, by decide +kernel⟩
theorem ok_72 (Z : Txt K mg ev) (L : Lv P w K mg base ev n) : FnOk P w K mg base CX0 (2 * (n + 1) + 2) (ev.fa 72) (ev.fd 72) (nms 72) (spI (gx P w K ev) (evF T pr wf (n + 1)) (ioOf T 72) 72) := by
  refine fn_go (k := 2 * n + 3) (d := d_72) rfl rfl Z.F_72 sc_72 rfl rfl fun cdv A outer s H E hr => ?_
  have hu := Room.u65 hr
  have hu4 := hr.units
  have hr1 : Room (2 * n + 2) _ := hr.mono (Nat.le_succ _)
  have hN := (sc_72).nd
  exact (rss_cons (rs_asg 2 hN (re_int)) (rss_cons (rs_for PassesOwn.never rfl (ri_rng1 (re_var 1) rfl Z.n_range) (rg_one 3 hN) (rss_cons (rs_asg 2 hN (re_bin .mul (re_var 2) (re_var 0))) (rss_nil))) (rss_cons (rs_ret (re_var 2)) (rss_nil))))
theorem sc_80 : FnScope ["_law_script", "_law_d", "_law_turn", "_law_way_here", "_law_top_here", "_law_time", "_law_many", "_law_bodies", "_law_room", "_law_size_here", "_law_found", "_law_k"] ["_law_script"] (defScope s_80) := ⟨rfl, rfl, rfl, by decide +kernel, rfl, by decide +kernel, by decide +kernel⟩
theorem ok_80 (Z : Txt K mg ev) (L : Lv P w K mg base ev n) : FnOk P w K mg base CX0 (2 * (n + 1) + 2) (ev.fa 80) (ev.fd 80) (nms 80) (spI (gx P w K ev) (evF T pr wf (n + 1)) (ioOf T 80) 80) := by
  refine fn_go (k := 2 * n + 3) (d := d_80) rfl rfl Z.F_80 sc_80 rfl rfl fun cdv A outer s H E hr => ?_
  have hu := Room.u65 hr
  have hu4 := hr.units
  have hr1 : Room (2 * n + 2) _ := hr.mono (Nat.le_succ _)
  have hN := (sc_80).nd
  exact (rss_cons (rs_asg 1 hN (re_call (L 50 _ rfl) hr1 rfl Z.m_50 Z.k_50 Z.b_50 (ra_cons (re_var 0) (ra_cons (re_int) (ra_nil))))) (rss_cons (rs_for PassesOwn.never rfl (ri_rng1 (re_int) rfl Z.n_range) (rg_one 2 hN) (rss_cons (rs_asg 3 hN (re_call (L 63 _ rfl) hr1 rfl Z.m_63 Z.k_63 Z.b_63 (ra_cons (re_var 1) (ra_nil)))) (rss_cons (rs_asg 4 hN (re_call (L 60 _ rfl) hr1 rfl Z.m_60 Z.k_60 Z.b_60 (ra_cons (re_var 3) (ra_nil)))) (rss_cons (rs_for PassesOwn.never rfl (ri_rng1 (re_int) rfl Z.n_range) (rg_one 5 hN) (rss_cons (rs_asg 9 hN (re_bin .add (re_int) (re_call (L 51 _ rfl) hr1 rfl Z.m_51 Z.k_51 Z.b_51 (ra_cons (re_var 1) (ra_cons (re_int) (ra_nil)))))) (rss_cons (rs_asg 10 hN (re_call (L 32 _ rfl) hr1 rfl Z.m_32 Z.k_32 Z.b_32 (ra_cons (re_var 3) (ra_cons (re_var 9) (ra_nil))))) (rss_cons (rs_ite (L2.PW.pt (rt_or (rt_not (rt_val (re_call (L 52 _ rfl) hr1 rfl Z.m_52 Z.k_52 Z.b_52 (ra_cons (re_var 10) (ra_cons (re_biT .int rfl rfl rfl Z.n_int rfl (ra_cons (re_var 10) (ra_nil)) bt_int) (ra_nil)))))) (rt_or1 (rt_not (rt_chain .le .le (re_int) (re_var 10) (re_call (L 72 _ rfl) hr1 rfl Z.m_72 Z.k_72 Z.b_72 (ra_cons (re_bin .sub (re_var 4) (re_int)) (ra_cons (re_bin .sub (re_var 9) (re_int)) (ra_nil)))) hu))))) (rss_cons (rs_ret (re_bl)) (rss_nil)) (rss_nil)) (rss_cons (rs_ite (L2.PW.pt (rt_and (rt_cmp .eq (re_ix (re_call (L 59 _ rfl) hr1 rfl Z.m_59 Z.k_59 Z.b_59 (ra_cons (re_var 3) (ra_nil))) (re_int)) (re_str) hu) (rt_and1 (rt_cmp .ne (re_var 10) (re_call (L 72 _ rfl) hr1 rfl Z.m_72 Z.k_72 Z.b_72 (ra_cons (re_bin .sub (re_var 4) (re_int)) (ra_cons (re_bin .sub (re_var 9) (re_int)) (ra_nil)))) hu)))) (rss_cons (rs_ret (re_bl)) (rss_nil)) (rss_nil)) (rss_nil)))))) (rss_cons (rs_asg 6 hN (re_call (L 51 _ rfl) hr1 rfl Z.m_51 Z.k_51 Z.b_51 (ra_cons (re_var 1) (ra_cons (re_int) (ra_nil))))) (rss_cons (rs_asg 7 hN (re_biB .sum rfl rfl rfl Z.n_sum rfl (ra_cons (re_lc [("_law_k", 11)] rfl hN (ri_rng1 (re_bin .add (re_var 6) (re_int)) rfl Z.n_range) (show blkC ["_law_script", "_law_d", "_law_turn", "_law_way_here", "_law_top_here", "_law_time", "_law_many", "_law_bodies", "_law_room", "_law_size_here", "_law_found", "_law_k"] (defScope s_80) _ [("_law_k", 11)] = true by decide +kernel) (fun _ _ _ _ _ => (rg_one 11 hN)) (fun _ _ _ _ _ => rc_none) (fun _ _ _ _ _ => (re_call (L 72 _ rfl) hr1 rfl Z.m_72 Z.k_72 Z.b_72 (ra_cons (re_var 4) (ra_cons (re_var 11) (ra_nil))))) (by decide)) (ra_nil)) bt_sum)) (rss_cons (rs_asg 8 hN (re_ix (re_call (L 30 _ rfl) hr1 rfl Z.m_30 Z.k_30 Z.b_30 (ra_cons (re_var 3) (ra_cons (re_var 6) (ra_nil)))) (re_int))) (rss_cons (rs_ite (rt_cmp .lt (re_biB .sum rfl rfl rfl Z.n_sum rfl (ra_cons (re_lc [("_law_size_here", 9)] rfl hN (ri_rng1 (re_bin .add (re_var 8) (re_int)) rfl Z.n_range) (show blkC ["_law_script", "_law_d", "_law_turn", "_law_way_here", "_law_top_here", "_law_time", "_law_many", "_law_bodies", "_law_room", "_law_size_here", "_law_found", "_law_k"] (defScope s_80) _ [("_law_size_here", 9)] = true by decide +kernel) (fun _ _ _ _ _ => (rg_one 9 hN)) (fun _ _ _ _ _ => rc_none) (fun _ _ _ _ _ => (re_call (L 32 _ rfl) hr1 rfl Z.m_32 Z.k_32 Z.b_32 (ra_cons (re_var 3) (ra_cons (re_var 9) (ra_nil))))) (by decide)) (ra_nil)) bt_sum) (re_var 7) hu) (rss_cons (rs_ret (re_bl)) (rss_nil)) (rss_nil)) (rss_cons (rs_ite (rt_cmp .gt (re_biB .sum rfl rfl rfl Z.n_sum rfl (ra_cons (re_lc [("_law_size_here", 9)] rfl hN (ri_rng1 (re_bin .add (re_var 6) (re_int)) rfl Z.n_range) (show blkC ["_law_script", "_law_d", "_law_turn", "_law_way_here", "_law_top_here", "_law_time", "_law_many", "_law_bodies", "_law_room", "_law_size_here", "_law_found", "_law_k"] (defScope s_80) _ [("_law_size_here", 9)] = true by decide +kernel) (fun _ _ _ _ _ => (rg_one 9 hN)) (fun _ _ _ _ _ => rc_none) (fun _ _ _ _ _ => (re_call (L 32 _ rfl) hr1 rfl Z.m_32 Z.k_32 Z.b_32 (ra_cons (re_var 3) (ra_cons (re_var 9) (ra_nil))))) (by decide)) (ra_nil)) bt_sum) (re_var 7) hu) (rss_cons (rs_ret (re_bl)) (rss_nil)) (rss_nil)) (rss_nil)))))))))) (rss_cons (rs_ret (re_bl)) (rss_nil))))
end
end K13

/-! N1a: how many rows a machine takes (no program in sight) -/
namespace Wm
open PySem L2 Pf Pd
/-! ### states as keys -/
def sds : Wm.St → List D
  | .row r => r.map .int
  | .grp l so b => [.int l, .str so.str, .bl b]
theorem st_d : ∀ s : Wm.St, s.d = .tup (sds s)
  | .row _ => rfl
  | .grp _ _ _ => rfl
def lvs : Wm.St → List Leaf
  | .row r => r.map .num
  | .grp l so b => [.num l, .text so.str, .num (if b = true then 1 else 0)]
theorem lf_ints : ∀ r : List Int, lfDs (r.map .int) = some (r.map .num)
  | [] => rfl
  | x :: r => by
    have := lf_ints r
    show ((lfD (.int x)).bind fun k => (lfDs (r.map .int)).bind fun ks => some (k :: ks)) = _
    rw [this]; rfl
theorem lf_sds : ∀ s : Wm.St, lfDs (sds s) = some (lvs s)
  | .row r => lf_ints r
  | .grp _ _ _ => rfl
theorem so_str : ∀ {a b : So}, a.str = b.str → a = b := by
  intro a b h
  cases a <;> cases b <;> first | rfl | (exact absurd h (by decide))
theorem num_inj : ∀ {a b : List Int}, a.map Leaf.num = b.map Leaf.num → a = b
  | [], [], _ => rfl
  | [], _ :: _, h => by cases h
  | _ :: _, [], h => by cases h
  | x :: a, y :: b, h => by
    rw [List.map_cons, List.map_cons] at h
    injection h with h1 h2
    injection h1 with h1
    rw [h1, num_inj h2]
theorem lvs_inj : ∀ {a b : Wm.St}, lvs a = lvs b → a = b := by
  intro a b h
  cases a with
  | row r => cases b with
    | row r' => exact congrArg _ (num_inj h)
    | grp l so b =>
      unfold lvs at h
      cases r with
      | nil => cases h
      | cons x r => cases r with
        | nil => simp at h
        | cons y r => simp at h
  | grp l so bb => cases b with
    | row r =>
      unfold lvs at h
      cases r with
      | nil => cases h
      | cons x r => cases r with
        | nil => simp at h
        | cons y r => simp at h
    | grp l' so' b' =>
      unfold lvs at h
      injection h with h1 h2
      injection h2 with h2 h3
      injection h3 with h3 h4
      injection h1 with h1
      injection h2 with h2
      injection h3 with h3
      have := so_str h2
      subst h1 this
      cases bb <;> cases b' <;> first | rfl | (exact absurd h3 (by decide))
instance : DecidableEq Wm.St := fun a b => decidable_of_iff (lvs a = lvs b) ⟨lvs_inj, congrArg _⟩
/-! ### counted states -/
abbrev Sm := List (Wm.St × Nat)
def kv (q : Wm.St × Nat) : List D × D := (sds q.1, .int q.2)
def addM : Sm → Wm.St → Nat → Sm
  | [], s, m => [(s, m)]
  | q :: r, s, m => if q.1 = s then (s, q.2 + m) :: r else q :: addM r s m
def valM : Sm → Wm.St → Nat
  | [], _ => 0
  | q :: r, s => if q.1 = s then q.2 else valM r s
def wsum (f : Wm.St → Nat) : Sm → Nat
  | [] => 0
  | q :: r => q.2 * f q.1 + wsum f r
theorem kv_dec (q : Wm.St × Nat) (s : Wm.St) : decide (lfDs (kv q).1 = some (lvs s)) = decide (q.1 = s) := by
  show decide (lfDs (sds q.1) = some (lvs s)) = _
  rw [lf_sds]
  by_cases c : q.1 = s
  · rw [c]; simp
  · have : ¬ some (lvs q.1) = some (lvs s) := fun h => c (lvs_inj (Option.some.inj h))
    simp [c, this]
theorem look_kv : ∀ (L : Sm) (s : Wm.St), (lookN (L.map kv) (lvs s)).getD (.int 0) = .int (valM L s : Nat)
  | [], _ => rfl
  | q :: r, s => by
    have ih := look_kv r s
    unfold lookN at ih ⊢
    rw [List.map_cons, List.find?_cons, kv_dec]
    unfold valM
    by_cases c : q.1 = s
    · rw [if_pos c, c]; simp [kv]
    · rw [if_neg c]; simp only [c, decide_false]; exact ih
theorem any_kv (L : Sm) (s : Wm.St) : ((L.map kv).any fun k => decide (lfDs k.1 = some (lvs s))) = decide (s ∈ L.map (·.1)) := by
  induction L with
  | nil => rfl
  | cons q r ih =>
    rw [List.map_cons, List.any_cons, ih, kv_dec]
    by_cases c : q.1 = s
    · simp [c]
    · have c' : ¬ s = q.1 := fun h => c h.symm
      simp [c, c']
theorem map_kv (d : D) : ∀ (L : Sm) (s : Wm.St), s ∉ L.map (·.1) → (L.map kv).map (fun k => if lfDs k.1 = some (lvs s) then (k.1, d) else k) = L.map kv
  | [], _, _ => rfl
  | q :: r, s, h => by
    have h1 : ¬ q.1 = s := fun c => h (by simp [c])
    have h2 : s ∉ r.map (·.1) := fun c => h (List.mem_cons_of_mem _ c)
    have := kv_dec q s
    rw [decide_eq_decide] at this
    rw [List.map_cons, List.map_cons, if_neg (fun c => h1 (this.mp c)), map_kv d r s h2]
theorem put_kv : ∀ (L : Sm) (s : Wm.St) (m : Nat), (L.map (·.1)).Nodup → putN (L.map kv) (sds s) (lvs s) (.int ((valM L s : Nat) + (m : Nat))) = (addM L s m).map kv
  | [], s, m, _ => by
    show [(sds s, D.int (((0 : Nat) : Int) + m))] = [(sds s, D.int ((m : Nat) : Int))]
    rw [Int.natCast_zero, Int.zero_add]
  | q :: r, s, m, h => by
    rw [List.map_cons, List.nodup_cons] at h
    have ih := put_kv r s m h.2
    unfold putN at ih ⊢
    rw [any_kv] at ih ⊢
    unfold valM addM
    have kd := kv_dec q s
    rw [decide_eq_decide] at kd
    by_cases c : q.1 = s
    · rw [if_pos c, if_pos c, if_pos (by simp [c]), List.map_cons, List.map_cons, if_pos (kd.mpr c), map_kv _ r s (by rw [← c]; exact h.1)]
      unfold kv
      rw [c]
      simp
    · have c' : ¬ s = q.1 := fun z => c z.symm
      rw [if_neg c, if_neg c]
      by_cases d : s ∈ r.map (·.1)
      · rw [if_pos (by simpa using d)] at ih
        rw [if_pos (by rw [List.map_cons]; simpa using Or.inr (by simpa using d)), List.map_cons, List.map_cons, if_neg (fun z => c (kd.mp z)), ih]
        rfl
      · rw [if_neg (by simpa using d)] at ih
        rw [if_neg (by rw [List.map_cons, decide_eq_true_eq, List.mem_cons]; exact fun z => z.elim c' d), List.map_cons, List.cons_append, ih]
        rfl
theorem add_mem : ∀ (L : Sm) (s : Wm.St) (m : Nat) {x : Wm.St}, x ∈ (addM L s m).map (·.1) → x = s ∨ x ∈ L.map (·.1)
  | [], s, m, x, h => by
    rw [show (addM [] s m).map (·.1) = [s] from rfl] at h
    exact .inl (List.mem_singleton.mp h)
  | q :: r, s, m, x, h => by
    unfold addM at h
    by_cases c : q.1 = s
    · rw [if_pos c, List.map_cons] at h
      rcases List.mem_cons.mp h with d | d
      · exact .inl d
      · exact .inr (List.mem_cons_of_mem _ d)
    · rw [if_neg c, List.map_cons] at h
      rcases List.mem_cons.mp h with d | d
      · exact .inr (by rw [d]; exact List.mem_cons_self)
      · rcases add_mem r s m d with z | z
        · exact .inl z
        · exact .inr (List.mem_cons_of_mem _ z)
theorem add_nodup : ∀ (L : Sm) (s : Wm.St) (m : Nat), (L.map (·.1)).Nodup → ((addM L s m).map (·.1)).Nodup
  | [], s, m, _ => by simp [addM]
  | q :: r, s, m, h => by
    rw [List.map_cons, List.nodup_cons] at h
    unfold addM
    by_cases c : q.1 = s
    · rw [if_pos c, List.map_cons, List.nodup_cons]
      exact ⟨by rw [← c]; exact h.1, h.2⟩
    · rw [if_neg c, List.map_cons, List.nodup_cons]
      refine ⟨fun z => ?_, add_nodup r s m h.2⟩
      rcases add_mem r s m z with z | z
      · exact c z
      · exact h.1 z
theorem wsum_add (f : Wm.St → Nat) : ∀ (L : Sm) (s : Wm.St) (m : Nat), wsum f (addM L s m) = wsum f L + m * f s
  | [], s, m => by simp [addM, wsum]
  | q :: r, s, m => by
    unfold addM
    by_cases c : q.1 = s
    · rw [if_pos c]
      show (q.2 + m) * f s + wsum f r = q.2 * f q.1 + wsum f r + m * f s
      rw [c, Nat.add_mul]; omega
    · rw [if_neg c]
      show q.2 * f q.1 + wsum f (addM r s m) = q.2 * f q.1 + wsum f r + m * f s
      rw [wsum_add f r s m]; omega
/-- one state's ways on -/
def inM (p : Pl) (s : Wm.St) (m : Nat) (xs : List Int) (S : Sm) : Sm := xs.foldl (fun S x => match stp p s x with
  | none => S
  | some q => addM S q.1 m) S
def goM (p : Pl) (L : Sm) (S : Sm) : Sm := L.foldl (fun S q => inM p q.1 q.2 (plL p.t p.e) S) S
def nxt (p : Pl) (xs : List Int) (s : Wm.St) : List Wm.St := xs.filterMap fun x => (stp p s x).map (·.1)
def nsum (f : Wm.St → Nat) (l : List Wm.St) : Nat := (l.map f).sum
theorem wsum_in (p : Pl) (f : Wm.St → Nat) (s : Wm.St) (m : Nat) : ∀ (xs : List Int) (S : Sm), wsum f (inM p s m xs S) = wsum f S + m * nsum f (nxt p xs s)
  | [], S => by simp [inM, nxt, nsum]
  | x :: xs, S => by
    have ih := fun S => wsum_in p f s m xs S
    unfold inM nxt at ih ⊢
    rw [List.foldl_cons, List.filterMap_cons, ih]
    cases stp p s x with
    | none => rfl
    | some q =>
      show wsum f (addM S q.1 m) + _ = wsum f S + m * nsum f (q.1 :: _)
      rw [wsum_add]
      show _ = wsum f S + m * (f q.1 + nsum f _)
      rw [Nat.mul_add]; omega
theorem wsum_go (p : Pl) (f : Wm.St → Nat) : ∀ (L S : Sm), wsum f (goM p L S) = wsum f S + wsum (fun s => nsum f (nxt p (plL p.t p.e) s)) L
  | [], S => by simp [goM, wsum]
  | q :: L, S => by
    have ih := fun S => wsum_go p f L S
    unfold goM at ih ⊢
    rw [List.foldl_cons, ih, wsum_in]
    simp only [wsum]
    omega
/-- so many signs on -/
def itM (p : Pl) : Nat → Sm
  | 0 => [(st0 p, 1)]
  | n + 1 => goM p (itM p n) []
/-- all states behind so many signs -/
def itS (p : Pl) : Nat → List Wm.St
  | 0 => [st0 p]
  | n + 1 => ((itS p n).map (nxt p (plL p.t p.e))).flatten
theorem nsum_flat (f : Wm.St → Nat) (g : Wm.St → List Wm.St) : ∀ l : List Wm.St, nsum f (l.map g).flatten = nsum (fun s => nsum f (g s)) l
  | [] => rfl
  | s :: l => by
    have ih := nsum_flat f g l
    unfold nsum at ih ⊢
    rw [List.map_cons, List.flatten_cons, List.map_append, List.sum_append, ih, List.map_cons, List.sum_cons]
theorem wsum_it (p : Pl) : ∀ (n : Nat) (f : Wm.St → Nat), wsum f (itM p n) = nsum f (itS p n)
  | 0, f => by simp [itM, itS, wsum, nsum]
  | n + 1, f => by
    show wsum f (goM p (itM p n) []) = nsum f ((itS p n).map (nxt p (plL p.t p.e))).flatten
    rw [wsum_go, nsum_flat, wsum_it p n]
    simp [wsum]
/-! ### all lists over some signs -/
def wds (al : List Int) : Nat → List (List Int)
  | 0 => [[]]
  | n + 1 => ((wds al n).map fun r => al.map fun x => r ++ [x]).flatten
theorem wds_in {al : List Int} : ∀ {n : Nat} {r : List Int}, r ∈ wds al n → r.length = n ∧ ∀ x ∈ r, x ∈ al
  | 0, r, h => by rw [List.mem_singleton.mp h]; exact ⟨rfl, fun _ h => absurd h List.not_mem_nil⟩
  | n + 1, r, h => by
    obtain ⟨l, hl, hr⟩ := List.mem_flatten.mp h
    obtain ⟨s, hs, rfl⟩ := List.mem_map.mp hl
    obtain ⟨x, hx, rfl⟩ := List.mem_map.mp hr
    obtain ⟨e, v⟩ := wds_in hs
    refine ⟨by rw [List.length_append, e]; rfl, fun y hy => ?_⟩
    rcases List.mem_append.mp hy with q | q
    · exact v y q
    · rw [List.mem_singleton.mp q]; exact hx
theorem wds_has {al : List Int} : ∀ {n : Nat} {r : List Int}, r.length = n → (∀ x ∈ r, x ∈ al) → r ∈ wds al n
  | 0, r, h, _ => by rw [List.eq_nil_of_length_eq_zero h]; exact List.mem_singleton.mpr rfl
  | n + 1, r, h, v => by
    rcases snoc_cases r with rfl | ⟨s, d, rfl⟩
    · cases h
    · rw [List.length_append] at h
      have hr := wds_has (n := n) (r := s) (by simpa using h) (fun x hx => v x (List.mem_append_left _ hx))
      exact List.mem_flatten.mpr ⟨_, List.mem_map.mpr ⟨s, hr, rfl⟩, List.mem_map.mpr ⟨d, v d (by simp), rfl⟩⟩
theorem flat_sum {α : Type} (k : Nat) : ∀ l : List (List α), (∀ r ∈ l, r.length = k) → l.flatten.length = l.length * k
  | [], _ => by simp
  | r :: l, h => by
    have := flat_sum k l fun s hs => h s (List.mem_cons_of_mem _ hs)
    have := h r List.mem_cons_self
    rw [List.flatten_cons, List.length_append, List.length_cons, Nat.add_mul]
    omega
theorem wds_len (al : List Int) : ∀ n : Nat, (wds al n).length = al.length ^ n
  | 0 => rfl
  | n + 1 => by
    show ((wds al n).map fun r => al.map fun x => r ++ [x]).flatten.length = _
    rw [flat_sum al.length _ fun r hr => by obtain ⟨s, _, rfl⟩ := List.mem_map.mp hr; rw [List.length_map], List.length_map, wds_len al n, Nat.pow_succ]
theorem map_nodup {α β : Type} {f : α → β} : ∀ {l : List α}, l.Nodup → (∀ a ∈ l, ∀ b ∈ l, f a = f b → a = b) → (l.map f).Nodup
  | [], _, _ => List.nodup_nil
  | a :: l, h, hi => by
    rw [List.nodup_cons] at h
    rw [List.map_cons, List.nodup_cons]
    refine ⟨fun z => ?_, map_nodup h.2 fun x hx y hy => hi x (List.mem_cons_of_mem _ hx) y (List.mem_cons_of_mem _ hy)⟩
    obtain ⟨b, hb, e⟩ := List.mem_map.mp z
    have := hi b (List.mem_cons_of_mem _ hb) a List.mem_cons_self e
    rw [this] at hb
    exact h.1 hb
theorem flat_nodup {α β : Type} (g : α → List β) : ∀ {l : List α}, l.Nodup → (∀ a ∈ l, (g a).Nodup) → (∀ a ∈ l, ∀ b ∈ l, ∀ x, x ∈ g a → x ∈ g b → a = b) → ((l.map g).flatten).Nodup
  | [], _, _, _ => List.nodup_nil
  | a :: l, h, h1, h2 => by
    rw [List.nodup_cons] at h
    rw [List.map_cons, List.flatten_cons, List.nodup_append]
    refine ⟨h1 a List.mem_cons_self, flat_nodup g h.2 (fun b hb => h1 b (List.mem_cons_of_mem _ hb)) (fun b hb c hc => h2 b (List.mem_cons_of_mem _ hb) c (List.mem_cons_of_mem _ hc)), fun x hx y hy e => ?_⟩
    subst e
    obtain ⟨r, hr, hxr⟩ := List.mem_flatten.mp hy
    obtain ⟨b, hb, rfl⟩ := List.mem_map.mp hr
    have := h2 a List.mem_cons_self b (List.mem_cons_of_mem _ hb) x hx hxr
    rw [← this] at hb
    exact h.1 hb
theorem wds_nodup {al : List Int} (h : al.Nodup) : ∀ n : Nat, (wds al n).Nodup
  | 0 => by simp [wds]
  | n + 1 => flat_nodup _ (wds_nodup h n) (fun r _ => map_nodup h fun a _ b _ e => by simpa using e) fun a _ b _ x hx hy => by
    obtain ⟨c, _, rfl⟩ := List.mem_map.mp hx
    obtain ⟨d, _, e⟩ := List.mem_map.mp hy
    have := List.append_inj' e rfl
    exact this.1.symm
/-- all lists of fewer signs -/
def wdsTo (al : List Int) (n : Nat) : List (List Int) := ((List.range n).map (wds al)).flatten
theorem to_in {al : List Int} {n : Nat} {r : List Int} (h : r ∈ wdsTo al n) : r.length < n ∧ ∀ x ∈ r, x ∈ al := by
  obtain ⟨l, hl, hr⟩ := List.mem_flatten.mp h
  obtain ⟨k, hk, rfl⟩ := List.mem_map.mp hl
  obtain ⟨e, v⟩ := wds_in hr
  exact ⟨by rw [e]; exact List.mem_range.mp hk, v⟩
theorem to_has {al : List Int} {n : Nat} {r : List Int} (h : r.length < n) (v : ∀ x ∈ r, x ∈ al) : r ∈ wdsTo al n :=
  List.mem_flatten.mpr ⟨_, List.mem_map.mpr ⟨r.length, List.mem_range.mpr h, rfl⟩, wds_has rfl v⟩
theorem to_nodup {al : List Int} (h : al.Nodup) (n : Nat) : (wdsTo al n).Nodup :=
  flat_nodup _ List.nodup_range (fun k _ => wds_nodup h k) fun a _ b _ x hx hy => by rw [← (wds_in hx).1, ← (wds_in hy).1]
theorem flat_len2 {α : Type} : ∀ l : List (List α), l.flatten.length = (l.map List.length).sum
  | [] => rfl
  | r :: l => by rw [List.flatten_cons, List.length_append, flat_len2 l, List.map_cons, List.sum_cons]
theorem to_len (al : List Int) (n : Nat) : (wdsTo al n).length = ((List.range n).map fun k => al.length ^ k).sum := by
  unfold wdsTo
  rw [flat_len2, List.map_map]
  congr 1
  exact List.map_congr_left fun k _ => wds_len al k
/-- as many at most, when each is put elsewhere -/
theorem pigeon {α β : Type} [DecidableEq β] (f : α → β) : ∀ (l : List α) (m : List β), l.Nodup → (∀ a ∈ l, ∀ b ∈ l, f a = f b → a = b) → (∀ a ∈ l, f a ∈ m) → l.length ≤ m.length
  | [], m, _, _, _ => Nat.zero_le _
  | a :: l, m, h, hi, hm => by
    rw [List.nodup_cons] at h
    have h1 := hm a List.mem_cons_self
    have := pigeon f l (m.erase (f a)) h.2 (fun x hx y hy => hi x (List.mem_cons_of_mem _ hx) y (List.mem_cons_of_mem _ hy)) fun b hb => by
      refine (List.mem_erase_of_ne fun e => ?_).mpr (hm b (List.mem_cons_of_mem _ hb))
      have := hi b (List.mem_cons_of_mem _ hb) a List.mem_cons_self e
      rw [this] at hb
      exact h.1 hb
    rw [List.length_erase_of_mem h1] at this
    have := List.length_pos_of_mem h1
    rw [List.length_cons]
    omega
/-! ### the rows that a machine takes -/
noncomputable def dcc (p : Pl) (r : List Int) : Option (List Int) := match run p r (st0 p) [] with
  | none => none
  | some q => (lst p q.1).map (q.2 ++ ·)
noncomputable def tkn (p : Pl) (n : Nat) : List (List Int) := (wds (plL p.t p.e) n).filter fun r => (dcc p r).isSome
theorem it_rows (p : Pl) : ∀ n : Nat, itS p n = (wds (plL p.t p.e) n).filterMap fun r => (run p r (st0 p) []).map (·.1)
  | 0 => rfl
  | n + 1 => by
    show ((itS p n).map (nxt p (plL p.t p.e))).flatten = ((((wds (plL p.t p.e) n).map fun r => (plL p.t p.e).map fun x => r ++ [x]).flatten).filterMap _)
    rw [it_rows p n]
    induction wds (plL p.t p.e) n with
    | nil => rfl
    | cons r l ih =>
      rw [List.map_cons, List.flatten_cons, List.filterMap_append, List.filterMap_cons, ← ih, List.filterMap_map]
      have e : ∀ x, (run p (r ++ [x]) (st0 p) []).map (·.1) = (run p r (st0 p) []).bind fun q => (stp p q.1 x).map (·.1) := fun x => by
        rw [run_app]
        cases run p r (st0 p) [] with
        | none => rfl
        | some q =>
          show (run p [x] q.1 q.2).map (·.1) = (stp p q.1 x).map (·.1)
          rw [run_cons]
          cases stp p q.1 x <;> rfl
      have e2 : ((fun r => (run p r (st0 p) []).map (·.1)) ∘ fun x => r ++ [x]) = fun x => (run p r (st0 p) []).bind fun q => (stp p q.1 x).map (·.1) := funext e
      rw [e2]
      cases run p r (st0 p) [] with
      | none => simp
      | some q => simp [nxt]
noncomputable def acc (p : Pl) (s : Wm.St) : Nat := if (lst p s).isSome = true then 1 else 0
/-- how many rows of so many signs are taken -/
noncomputable def FrN (p : Pl) (n : Nat) : Nat := (tkn p n).length
theorem it_taken (p : Pl) (n : Nat) : wsum (acc p) (itM p n) = FrN p n := by
  rw [wsum_it, it_rows]
  unfold FrN tkn
  induction wds (plL p.t p.e) n with
  | nil => rfl
  | cons r l ih =>
    rw [List.filterMap_cons, List.filter_cons]
    cases q : run p r (st0 p) [] with
    | none =>
      have e : dcc p r = none := by unfold dcc; rw [q]
      rw [e, if_neg (by simp)]
      exact ih
    | some z =>
      have e : (dcc p r).isSome = (lst p z.1).isSome := by
        unfold dcc
        rw [q]
        dsimp only
        cases lst p z.1 <;> rfl
      rw [e]
      show nsum (acc p) (z.1 :: _) = _
      unfold nsum at ih ⊢
      rw [List.map_cons, List.sum_cons, ih]
      unfold acc
      by_cases c : (lst p z.1).isSome = true
      · rw [if_pos c, if_pos c, List.length_cons]; omega
      · rw [if_neg c, if_neg c]; omega
end Wm

/-! N1b: no body takes more; rooms and bodies (no program in sight) -/
namespace Wm
open PySem L2 Pf Pd
/-! ### groups -/
theorem grp_length (e : Int) {z : Nat} (hz : 1 ≤ z) (last : Bool) : ∀ (n : Nat) (row found : List Int), row.length < n →
    (grp e z last n row found).length = found.length + row.length + (if last = true ∧ row.length % z = 0 ∧ (row ≠ [] ∨ found ≠ []) then row.length / z else row.length / z + 1)
  | 0, row, found, h => absurd h (Nat.not_lt_zero _)
  | n + 1, row, found, h => by
    unfold grp
    by_cases c : z ≤ row.length
    · rw [if_pos c, grp_length e hz last n _ _ (by rw [List.length_drop]; omega)]
      have h1 : (row.length - z) % z = row.length % z := (Nat.mod_eq_sub_mod c).symm
      have h2 : (row.length - z) / z + 1 = row.length / z := by
        have := Nat.div_eq_sub_div (by omega) c
        omega
      have h3 : row ≠ [] := fun q => by rw [q] at c; simp at c; omega
      simp only [List.length_append, List.length_cons, List.length_take, List.length_drop, Nat.min_eq_left c, h1]
      have h4 : (found ++ (sg e z :: row.take z) ≠ []) := by simp
      by_cases q : last = true ∧ row.length % z = 0
      · rw [if_pos ⟨q.1, q.2, .inr h4⟩, if_pos ⟨q.1, q.2, .inl h3⟩]; omega
      · rw [if_neg (fun w => q ⟨w.1, w.2.1⟩), if_neg (fun w => q ⟨w.1, w.2.1⟩)]; omega
    · rw [if_neg c]
      have h1 : row.length % z = row.length := Nat.mod_eq_of_lt (by omega)
      have h2 : row.length / z = 0 := Nat.div_eq_of_lt (by omega)
      rw [h1, h2]
      by_cases q : row ≠ [] ∨ found = [] ∨ last = false
      · rw [if_pos q, if_neg, List.length_append, List.length_cons]
        · omega
        · rintro ⟨w1, w2, w3⟩
          have w4 : row = [] := List.eq_nil_of_length_eq_zero w2
          rcases q with q | q | q
          · exact q w4
          · rcases w3 with w3 | w3
            · exact w3 w4
            · exact w3 q
          · rw [q] at w1; cases w1
      · rw [if_neg q]
        have q1 : row = [] := Classical.byContradiction fun z => q (.inl z)
        have q2 : found ≠ [] := fun z => q (.inr (.inl z))
        have q3 : last = true := by cases last with
          | true => rfl
          | false => exact absurd (.inr (.inr rfl)) q
        rw [if_pos ⟨q3, by rw [q1]; rfl, .inr q2⟩, q1]
        simp
/-- how many groups so many signs take -/
def gN (z j : Nat) : Nat := if j = 0 then 1 else (j + z - 1) / z
theorem gN_mono {z a b : Nat} (hz : 1 ≤ z) (h : a ≤ b) : gN z a ≤ gN z b := by
  unfold gN
  by_cases c : a = 0
  · rw [if_pos c]
    by_cases d : b = 0
    · rw [if_pos d]; exact Nat.le_refl _
    · rw [if_neg d]
      exact (Nat.le_div_iff_mul_le (by omega)).mpr (by omega)
  · rw [if_neg c, if_neg (by omega)]
    exact Nat.div_le_div_right (by omega)
theorem gN_last {z r : Nat} (hz : 1 ≤ z) : (if r % z = 0 ∧ r ≠ 0 then r / z else r / z + 1) = gN z r := by
  unfold gN
  by_cases c : r = 0
  · rw [if_pos c, if_neg (fun w => w.2 c), c]; simp
  · rw [if_neg c]
    have e := Nat.div_add_mod r z
    have l := Nat.mod_lt r (show 0 < z by omega)
    by_cases d : r % z = 0
    · rw [if_pos ⟨d, c⟩]
      have : r + z - 1 = z * (r / z) + (z - 1) := by omega
      rw [this, Nat.mul_add_div (by omega), Nat.div_eq_of_lt (show z - 1 < z by omega)]
      omega
    · rw [if_neg (fun w => d w.1)]
      have : r + z - 1 = z * (r / z) + (r % z + z - 1) := by omega
      rw [this, Nat.mul_add_div (by omega)]
      have h1 : (r % z + z - 1) / z = 1 := by
        apply Nat.div_eq_of_lt_le <;> omega
      omega
theorem div_sum (a b z : Nat) (hz : 1 ≤ z) : a / z + b / z ≤ (a + b) / z := by
  rw [Nat.le_div_iff_mul_le (by omega), Nat.add_mul]
  have := Nat.div_mul_le_self a z
  have := Nat.div_mul_le_self b z
  omega
theorem cnt_most (e : Int) {z : Nat} (hz : 1 ≤ z) : ∀ rows : List (List Int), rows ≠ [] → (cntL e z rows).length ≤ (joinE e rows).length + gN z (joinE e rows).length
  | [], h => absurd rfl h
  | r :: rs, _ => by
    rw [cntL_cons, joinE_cons, List.length_append, grp_length e hz _ _ _ _ (Nat.lt_succ_self _)]
    by_cases c : rs = []
    · subst c
      have := gN_last (r := r.length) hz
      have hn : (r.length % z = 0 ∧ (r ≠ [] ∨ ([] : List Int) ≠ [])) ↔ (r.length % z = 0 ∧ r.length ≠ 0) := by
        constructor
        · rintro ⟨a, b | b⟩
          · exact ⟨a, fun q => b (List.eq_nil_of_length_eq_zero q)⟩
          · exact absurd rfl b
        · rintro ⟨a, b⟩
          exact ⟨a, .inl fun q => b (by rw [q]; rfl)⟩
      simp only [cntL_nil, List.isEmpty_nil, if_true, List.length_nil, true_and, hn, this]
      omega
    · have hi : rs.isEmpty = false := by cases rs with
        | nil => exact absurd rfl c
        | cons _ _ => rfl
      have ih := cnt_most e hz rs c
      rw [hi]
      simp only [Bool.false_eq_true, false_and, if_false, List.length_append, List.length_cons, List.length_nil]
      generalize (joinE e rs).length = j at ih ⊢
      have key : r.length / z + gN z j ≤ gN z (r.length + (j + 1)) := by
        unfold gN
        rw [if_neg (show ¬ r.length + (j + 1) = 0 by omega)]
        by_cases d : j = 0
        · rw [if_pos d, d]
          have : r.length + (0 + 1) + z - 1 = r.length + z := by omega
          rw [this, Nat.add_div_right _ (by omega)]
          exact Nat.le_refl _
        · rw [if_neg d]
          have := div_sum r.length (j + z - 1) z hz
          have h2 : (r.length + (j + z - 1)) / z ≤ (r.length + (j + 1) + z - 1) / z := Nat.div_le_div_right (by omega)
          omega
      omega
theorem splR_none {e : Int} {ns : List Int} (h : e ∉ ns) : splR e ns = [ns] := by
  unfold splR
  induction ns using Pf.rev_ind with
  | h0 => rfl
  | hs ns x ih =>
    have h1 : e ∉ ns := fun z => h (by simp [z])
    have h2 : ¬ x = e := fun z => h (by simp [z])
    have := ih h1
    rw [splF_snoc]
    unfold splS
    rw [if_neg h2]
    have e1 : (splF e ns).1 = [] ∧ (splF e ns).2 = ns := by
      cases q : (splF e ns).1 with
      | nil => rw [q] at this; simpa using this
      | cons a b =>
        rw [q] at this
        have := congrArg List.length this
        simp at this
    rw [e1.1, e1.2]; rfl
/-! ### the sign that takes most -/
def szs (p : Pl) : List Int := p.c.map fun c => (c.length : Int)
def wsg (p : Pl) : Int := match p.k with
  | .codes => ((szs p).idxOf (maxI (szs p)) : Nat)
  | .counts => bk p.s (sg p.e 0)
  | .ranks => bk p.s (p.t - 1)
theorem maxI_spec : ∀ l : List Int, l ≠ [] → maxI l ∈ l ∧ ∀ z ∈ l, z ≤ maxI l := by
  intro l
  induction l with
  | nil => intro q; exact absurd rfl q
  | cons a l ih =>
    intro _
    cases l with
    | nil => simp [maxI]
    | cons b l =>
      obtain ⟨i1, i2⟩ := ih (by simp)
      have e : maxI (a :: b :: l) = if maxI (b :: l) > a then maxI (b :: l) else a := rfl
      rw [e]
      split
      · refine ⟨List.mem_cons_of_mem _ i1, fun z hz => ?_⟩
        rcases List.mem_cons.mp hz with q | q
        · subst q; omega
        · exact i2 z q
      · refine ⟨List.mem_cons_self, fun z hz => ?_⟩
        rcases List.mem_cons.mp hz with q | q
        · subst q; omega
        · have := i2 z q; omega
theorem wsg_ok {p : Pl} (h : PlOk p) : 0 ≤ wsg p ∧ wsg p < p.t := by
  obtain ⟨t3, t16, h0, h1⟩ := h.toTe
  unfold wsg
  cases hk : p.k with
  | codes =>
    obtain ⟨_, hl, _⟩ := h.kc hk
    have hne : szs p ≠ [] := fun q => by
      have := congrArg List.length q
      unfold szs at this
      rw [List.length_map] at this
      simp at this
      rw [this] at hl
      simp at hl; omega
    have := List.idxOf_lt_length_of_mem (maxI_spec _ hne).1
    have e : (szs p).length = p.c.length := by unfold szs; rw [List.length_map]
    show 0 ≤ (((szs p).idxOf (maxI (szs p)) : Nat) : Int) ∧ (((szs p).idxOf (maxI (szs p)) : Nat) : Int) < p.t
    omega
  | counts =>
    have := sg_range h0 h1 (c := 0) (by omega) (by omega)
    exact bk_range h.sp this.1 this.2.1
  | ranks => exact bk_range h.sp (by omega) (by omega)
theorem rep_num {t : Int} (h : 1 ≤ t) : ∀ m : Nat, num t (List.replicate m (t - 1)) = ahead t (m + 1) - 1
  | 0 => by simp [ahead, num, numF]
  | m + 1 => by
    rw [List.replicate_succ', num_snoc, rep_num h m]
    show (ahead t (m + 1) - 1) * t + (t - 1) + 1 = ahead t (m + 1) * t + 1 - 1
    rw [Int.sub_mul]; omega
theorem row_mono {m : Int} (h : 1 ≤ m) {r s : List Int} (v : Vd m r) (w : Vd m s) (e : num m r ≤ num m s) : r.length ≤ s.length := by
  by_cases q : s.length < r.length
  · have := num_len h w v q; omega
  · omega
theorem sum_len {α : Type} (M : Nat) : ∀ l : List (List α), (∀ r ∈ l, r.length ≤ M) → l.flatten.length ≤ M * l.length := flat_len M
theorem rep_len (c : List Int) : ∀ m : Nat, (List.replicate m c).flatten.length = c.length * m
  | 0 => by simp
  | m + 1 => by rw [List.replicate_succ, List.flatten_cons, List.length_append, rep_len c m, Nat.mul_add]; omega
/-- no body takes more -/
theorem enc_most {p : Pl} (h : PlOk p) {b : List Int} (v : Vd p.t b) {m : Nat} (hb : b.length ≤ m) : (enc p b).length ≤ (enc p (List.replicate m (wsg p))).length := by
  obtain ⟨t3, t16, h0, h1⟩ := h.toTe
  cases hk : p.k with
  | codes =>
    have e1 : ∀ b, enc p b = (b.map (cdAt p)).flatten := fun b => by unfold enc; rw [hk]
    obtain ⟨_, hl, hc⟩ := h.kc hk
    have hw := wsg_ok h
    have ew : wsg p = ((szs p).idxOf (maxI (szs p)) : Nat) := by unfold wsg; rw [hk]
    have hne : szs p ≠ [] := fun q => by
      have := congrArg List.length q
      unfold szs at this
      rw [List.length_map] at this
      simp at this
      rw [this] at hl
      simp at hl; omega
    obtain ⟨m1, m2⟩ := maxI_spec _ hne
    have hi := List.idxOf_lt_length_of_mem m1
    have ecl : ((cdAt p (wsg p)).length : Int) = maxI (szs p) := by
      have g := (cd_at (p := p) hw.1 (by omega)).2
      have g2 : (szs p)[(wsg p).toNat]? = some ((cdAt p (wsg p)).length : Int) := by unfold szs; rw [List.getElem?_map, g]; rfl
      rw [ew, Int.toNat_natCast, List.getElem?_eq_getElem hi, List.getElem_idxOf hi] at g2
      rw [ew]
      exact (Option.some.inj g2).symm
    have le : ∀ x ∈ b, (cdAt p x).length ≤ (cdAt p (wsg p)).length := fun x hx => by
      have g := (cd_at (p := p) (v x hx).1 (by have := (v x hx).2; omega)).2
      have : ((cdAt p x).length : Int) ∈ szs p := List.mem_map.mpr ⟨_, List.mem_of_getElem? g, rfl⟩
      have := m2 _ this
      omega
    rw [e1, e1]
    have a := flat_len (cdAt p (wsg p)).length (b.map (cdAt p)) fun r hr => by
      obtain ⟨x, hx, rfl⟩ := List.mem_map.mp hr
      exact le x hx
    rw [List.length_map] at a
    have z : ((List.replicate m (wsg p)).map (cdAt p)).flatten.length = (cdAt p (wsg p)).length * m := by
      rw [List.map_replicate]
      exact rep_len _ m
    rw [z]
    exact Nat.le_trans a (Nat.mul_le_mul_left _ hb)
  | counts =>
    have e1 : ∀ b, enc p b = cntL p.e (p.l - 1).toNat (splR p.e (b.map (ex p.s))) := fun b => by unfold enc; rw [hk]
    obtain ⟨l0, l1⟩ := h.kn hk
    have hz : 1 ≤ (p.l - 1).toNat := by omega
    have ew : wsg p = bk p.s (sg p.e 0) := by unfold wsg; rw [hk]
    have r0 := sg_range h0 h1 (c := 0) (by omega) (by omega)
    have er : (List.replicate m (wsg p)).map (ex p.s) = List.replicate m (sg p.e 0) := by rw [List.map_replicate, ew, ex_bk h.sp r0.1 r0.2.1]
    have a := cnt_most p.e hz (splR p.e (b.map (ex p.s))) (splR_ne _ _)
    rw [splR_join, List.length_map] at a
    rw [e1, e1, er, splR_none (fun q => r0.2.2 (List.eq_of_mem_replicate q).symm)]
    have z : (cntL p.e (p.l - 1).toNat [List.replicate m (sg p.e 0)]).length = m + gN (p.l - 1).toNat m := by
      rw [cntL_cons, cntL_nil, List.append_nil, grp_length p.e hz _ _ _ _ (Nat.lt_succ_self _), ← gN_last hz]
      have hn : (m % (p.l - 1).toNat = 0 ∧ (List.replicate m (sg p.e 0) ≠ [] ∨ ([] : List Int) ≠ [])) ↔ (m % (p.l - 1).toNat = 0 ∧ m ≠ 0) := by
        constructor
        · rintro ⟨a, b | b⟩
          · exact ⟨a, fun q => b (by rw [q]; rfl)⟩
          · exact absurd rfl b
        · rintro ⟨a, b⟩
          exact ⟨a, .inl fun q => b (by have := congrArg List.length q; simpa using this)⟩
      simp only [List.isEmpty_nil, true_and, List.length_nil, List.length_replicate, hn]
      omega
    rw [z]
    have := gN_mono hz hb
    omega
  | ranks =>
    have e1 : ∀ b, enc p b = (rowOf (p.t - 1) (num p.t (b.map (ex p.s)))).map (sg p.e) := fun b => by unfold enc; rw [hk]
    have ew : wsg p = bk p.s (p.t - 1) := by unfold wsg; rw [hk]
    have er : (List.replicate m (wsg p)).map (ex p.s) = List.replicate m (p.t - 1) := by rw [List.map_replicate, ew, ex_bk h.sp (by omega) (by omega)]
    have vx := vd_ex h v
    have vr : Vd p.t (List.replicate m (p.t - 1)) := fun x hx => by rw [List.eq_of_mem_replicate hx]; omega
    obtain ⟨w1, n1⟩ := rowOf_ok (show (1 : Int) ≤ p.t - 1 by omega) (num_nonneg (show (1 : Int) ≤ p.t by omega) vx)
    obtain ⟨w2, n2⟩ := rowOf_ok (show (1 : Int) ≤ p.t - 1 by omega) (num_nonneg (show (1 : Int) ≤ p.t by omega) vr)
    rw [e1, e1, er, List.length_map, List.length_map]
    refine row_mono (by omega) w1 w2 ?_
    rw [n1, n2, rep_num (by omega)]
    have a := (num_between (show (1 : Int) ≤ p.t by omega) _ vx).2
    rw [List.length_map] at a
    have c := ahead_mono (show (1 : Int) ≤ p.t by omega) (show b.length + 1 ≤ m + 1 by omega)
    omega
/-! ### the value of worst -/
theorem index_of {ns : List Int} {y : Int} (h : y ∈ ns) : blD .index (.lst (ns.map .int)) [.int y] = .ok (.int (ns.idxOf y : Nat)) := by
  show (if _ then _ else _ : Rs D) = _
  rw [if_pos ⟨rfl, pls_int _, by simp [PyData.depth]⟩, pys_int, dI]
  have e : PySem.SeqAt.dataPlace (ns.map PyData.int) (.int y) = some (ns.idxOf y) := by
    unfold PySem.SeqAt.dataPlace
    rw [List.findIdx?_eq_some_iff_getElem]
    have hi := List.idxOf_lt_length_of_mem h
    refine ⟨by simpa using hi, ?_, fun j hj => ?_⟩
    · rw [List.getElem_map, List.getElem_idxOf hi]; simp [PyData.eqv]
    · rw [List.getElem_map]
      have := List.not_of_lt_findIdx (p := (· == y)) hj
      simpa [PyData.eqv] using this
  rw [e]; rfl
/-- a row that is read is the frame of what is read -/
theorem enc_dcc {p : Pl} (h : PlOk p) {r b : List Int} (hr : Pn p r) (e : dcc p r = some b) : enc p b = r ∧ Vd p.t b := by
  unfold dcc at e
  cases q : run p r (st0 p) [] with
  | none => rw [q] at e; cases e
  | some w =>
    rw [q] at e
    obtain ⟨s, T⟩ := w
    dsimp only at e
    cases q2 : lst p s with
    | none => rw [q2] at e; cases e
    | some m =>
      rw [q2] at e
      have eb : T ++ m = b := Option.some.inj e
      subst eb
      cases hk : p.k with
      | codes =>
        have s0 : st0 p = .row [] := by unfold st0; rw [hk]; rfl
        rw [s0] at q
        obtain ⟨v, s2, q3, q4⟩ := comp_codes h hk r [] [] s T Vd.nil q
        subst q3
        rw [lst_row, if_pos hk] at q2
        by_cases c : s2 = []
        · rw [if_pos c] at q2
          cases q2
          subst c
          rw [List.append_nil]
          refine ⟨?_, v⟩
          have e1 : enc p T = (T.map (cdAt p)).flatten := by unfold enc; rw [hk]
          rw [e1]
          simpa using q4
        · rw [if_neg c] at q2; cases q2
      | counts =>
        have s0 : st0 p = .grp 0 .none false := by unfold st0; rw [if_pos hk]
        rw [s0] at q
        obtain ⟨l0, l1⟩ := h.kn hk
        have hz : p.l = ((p.l - 1).toNat : Nat) + 1 := by omega
        have o0 : RdOk p (p.l - 1).toNat [] [] (.grp 0 .none false) := ⟨Int.le_refl 0, rfl, rfl, rfl⟩
        obtain ⟨o, v⟩ := comp_counts h hz (by omega) r [] [] _ s T hr o0 Vd.nil q
        cases s with
        | row _ => exact o.elim
        | grp l so bb =>
          rw [lst_grp] at q2
          by_cases c : l = 0 ∧ so ≠ .none ∧ bb = false
          · rw [if_pos c] at q2
            cases q2
            rw [List.append_nil]
            refine ⟨?_, v⟩
            have e1 : enc p T = cntL p.e (p.l - 1).toNat (splR p.e (T.map (ex p.s))) := by unfold enc; rw [hk]
            rw [e1, cnt_wr p.e (by omega)]
            obtain ⟨_, o⟩ := o
            rw [List.nil_append] at o
            obtain ⟨c1, c2, c3⟩ := c
            subst c1 c3
            cases so with
            | none => exact absurd rfl c2
            | full =>
              rcases o with ⟨_, o1, o2, o3⟩ | o
              · unfold wCl
                rw [o2, o3, if_neg (by simp), List.append_nil]
                exact o1.symm
              · exact absurd o.1 (by omega)
            | part =>
              obtain ⟨o1, o2, o3⟩ := o
              rw [o1]
              unfold wCl
              rw [if_pos]
              · rw [Int.add_zero]
              · by_cases g0 : (wRun p.e (p.l - 1).toNat (T.map (ex p.s))).2.1 = []
                · right
                  intro a0
                  have := o3.mpr ⟨by rw [g0]; simp, a0⟩
                  cases this
                · exact .inl g0
          · rw [if_neg c] at q2; cases q2
      | ranks =>
        have s0 : st0 p = .row [] := by unfold st0; rw [hk]; rfl
        rw [s0, run_ranks hk] at q
        cases q
        rw [List.nil_append] at q2 ⊢
        rw [lst_row, hk, if_neg (by decide)] at q2
        cases q2
        have t3 := h.t3
        have vg := vd_gs h.toTe hr
        obtain ⟨w1, w2⟩ := rowOf_ok (m := p.t) (k := num (p.t - 1) (r.map (gs p.e))) (by omega) (num_nonneg (by omega) vg)
        have e1 : ∀ b : List Int, enc p b = (rowOf (p.t - 1) (num p.t (b.map (ex p.s)))).map (sg p.e) := fun b => by unfold enc; rw [hk]
        generalize rowOf p.t (num (p.t - 1) (r.map (gs p.e))) = y at w1 w2
        have eb : (y.map (bk p.s)).map (ex p.s) = y := by
          rw [List.map_map]
          conv => rhs; rw [← List.map_id y]
          exact List.map_congr_left fun a ha => ex_bk h.sp (w1 a ha).1 (w1 a ha).2
        refine ⟨?_, fun a ha => ?_⟩
        · rw [e1, eb, w2, rowOf_eq (by omega) vg rfl, List.map_map]
          conv => rhs; rw [← List.map_id r]
          exact List.map_congr_left fun a ha => sg_gs (hr a ha).2
        · obtain ⟨c, hc, rfl⟩ := List.mem_map.mp ha
          exact bk_range h.sp (w1 c hc).1 (w1 c hc).2

theorem dcc_enc {p : Pl} (h : PlOk p) {b : List Int} (v : Vd p.t b) (hb : b.length ≤ 60) : dcc p (enc p b) = some b := by
  have e := dec_enc h v hb
  unfold dec at e
  unfold dcc
  cases q : run p (enc p b) (st0 p) [] with
  | none => rw [q] at e; cases e
  | some w =>
    rw [q] at e
    dsimp only at e ⊢
    cases q2 : lst p w.1 with
    | none => rw [q2] at e; cases e
    | some m =>
      rw [q2] at e
      dsimp only at e
      by_cases c : w.2.length + m.length ≤ 60
      · rw [if_pos c] at e; exact e
      · rw [if_neg c] at e; cases e
theorem mem_plL {t e x : Int} (h0 : 0 ≤ e) (h1 : e < t) : x ∈ plL t e ↔ (0 ≤ x ∧ x < t) ∧ x ≠ e := by
  unfold plL
  rw [List.mem_map]
  constructor
  · rintro ⟨c, hc, rfl⟩
    obtain ⟨c0, c1⟩ := mem_rg.mp hc
    obtain ⟨a, b, c⟩ := sg_range h0 h1 c0 c1
    exact ⟨⟨a, b⟩, c⟩
  · rintro ⟨⟨a, b⟩, c⟩
    refine ⟨gs e x, mem_rg.mpr ?_, sg_gs c⟩
    unfold gs
    split <;> omega
theorem plL_nodup (t e : Int) : (plL t e).Nodup := by
  unfold plL
  refine map_nodup (rg_nodup _) fun a _ b _ h => ?_
  have := congrArg (gs e) h
  rwa [gs_sg, gs_sg] at this
theorem plL_len (t e : Int) : (plL t e).length = (t - 1).toNat := by unfold plL; rw [List.length_map, rg_len]
theorem tkn_in {p : Pl} (h : PlOk p) {n : Nat} {r : List Int} : r ∈ tkn p n ↔ r.length = n ∧ Pn p r ∧ (dcc p r).isSome = true := by
  unfold tkn
  rw [List.mem_filter]
  constructor
  · rintro ⟨a, b⟩
    obtain ⟨e, v⟩ := wds_in a
    exact ⟨e, fun x hx => (mem_plL h.e0 h.e1).mp (v x hx), b⟩
  · rintro ⟨a, b, c⟩
    exact ⟨wds_has a fun x hx => (mem_plL h.e0 h.e1).mpr (b x hx), c⟩
theorem fr_most (p : Pl) (n : Nat) : FrN p n ≤ (p.t - 1).toNat ^ n := by
  have := List.length_filter_le (fun r => (dcc p r).isSome) (wds (plL p.t p.e) n)
  rw [wds_len, plL_len] at this
  exact this
theorem fr_ranks {p : Pl} (hk : p.k = .ranks) (n : Nat) : FrN p n = (p.t - 1).toNat ^ n := by
  unfold FrN tkn
  rw [List.filter_eq_self.mpr, wds_len, plL_len]
  intro r _
  unfold dcc
  have s0 : st0 p = .row [] := by unfold st0; rw [hk]; rfl
  rw [s0, run_ranks hk]
  dsimp only
  rw [lst_row, hk, if_neg (by decide)]
  rfl
theorem tkn_nodup (p : Pl) (n : Nat) : (tkn p n).Nodup := List.Pairwise.filter _ (wds_nodup (plL_nodup _ _) n)
theorem tkn_flat {p : Pl} (h : PlOk p) (m : Nat) : (((List.range m).map (tkn p)).flatten).Nodup :=
  flat_nodup _ List.nodup_range (fun k _ => tkn_nodup p k) fun a _ b _ x hx hy => by rw [← ((tkn_in h).mp hx).1, ← ((tkn_in h).mp hy).1]
/-- frames of rooms below -/
theorem fr_low {p : Pl} (h : PlOk p) {m : Nat} (hm : m ≤ 60) : (wdsTo (rg p.t) (m + 1)).length ≤ ((List.range ((enc p (List.replicate m (wsg p))).length + 1)).map (FrN p)).sum := by
  have e : ((List.range ((enc p (List.replicate m (wsg p))).length + 1)).map (FrN p)).sum = (((List.range ((enc p (List.replicate m (wsg p))).length + 1)).map (tkn p)).flatten).length := by
    rw [flat_len2, List.map_map]; rfl
  rw [e]
  have vd : ∀ b ∈ wdsTo (rg p.t) (m + 1), Vd p.t b ∧ b.length ≤ m := fun b hb => by
    obtain ⟨a, v⟩ := to_in hb
    exact ⟨fun x hx => mem_rg.mp (v x hx), by omega⟩
  refine pigeon (enc p) _ _ (to_nodup (rg_nodup _) _) (fun a ha b hb e => ?_) fun b hb => ?_
  · obtain ⟨v1, l1⟩ := vd a ha
    obtain ⟨v2, l2⟩ := vd b hb
    have e1 := dcc_enc h v1 (by omega)
    have e2 := dcc_enc h v2 (by omega)
    rw [e, e2] at e1
    exact (Option.some.inj e1).symm
  · obtain ⟨v, l⟩ := vd b hb
    have := enc_most h v l
    refine List.mem_flatten.mpr ⟨_, List.mem_map.mpr ⟨(enc p b).length, List.mem_range.mpr (by omega), rfl⟩, (tkn_in h).mpr ⟨rfl, (enc_ok h v (by omega)).1, ?_⟩⟩
    rw [dcc_enc h v (by omega)]; rfl
theorem fr_high {p : Pl} (h : PlOk p) (m : Nat) : ((List.range (m + 1)).map (FrN p)).sum ≤ (wdsTo (rg p.t) (m + 1)).length := by
  have e : ((List.range (m + 1)).map (FrN p)).sum = (((List.range (m + 1)).map (tkn p)).flatten).length := by
    rw [flat_len2, List.map_map]; rfl
  rw [e]
  have vd : ∀ r ∈ ((List.range (m + 1)).map (tkn p)).flatten, r.length ≤ m ∧ enc p ((dcc p r).getD []) = r ∧ Vd p.t ((dcc p r).getD []) := fun r hr => by
    obtain ⟨l, hl, hr⟩ := List.mem_flatten.mp hr
    obtain ⟨k, hk, rfl⟩ := List.mem_map.mp hl
    obtain ⟨a, b, c⟩ := (tkn_in h).mp hr
    have := List.mem_range.mp hk
    obtain ⟨z, hz⟩ := Option.isSome_iff_exists.mp c
    rw [hz]
    exact ⟨by omega, enc_dcc h b hz⟩
  refine pigeon (fun r => (dcc p r).getD []) _ _ (tkn_flat h _) (fun a ha b hb e => ?_) fun r hr => ?_
  · obtain ⟨_, e1, _⟩ := vd a ha
    obtain ⟨_, e2, _⟩ := vd b hb
    rw [← e1, ← e2, e]
  · obtain ⟨l, e1, v⟩ := vd r hr
    have := enc_long h v
    rw [e1] at this
    exact to_has (by omega) fun x hx => mem_rg.mpr (v x hx)
/-- how many frames of a room -/
noncomputable def frN (p : Pl) : Nat → Nat
  | 0 => 0
  | n + 1 => FrN p n
theorem fr_sum (p : Pl) (n : Nat) : ((List.range (n + 1)).map (frN p)).sum = ((List.range n).map (FrN p)).sum := by
  rw [List.range_succ_eq_map, List.map_cons, List.map_map, List.sum_cons]
  show 0 + _ = _
  rw [Nat.zero_add]
  rfl
end Wm

/-! K13m: the values of power and worst -/
namespace K13
open PySem L2 Pf Pd Wm
variable {W : Nat}
theorem tw : Hw T pr := ⟨rfl, rfl, rfl, rfl, rfl, rfl, rfl, rfl, rfl, rfl, rfl, rfl, rfl⟩
theorem tc : Hc T pr := ⟨rfl, rfl, rfl, rfl, rfl, rfl, fun n as => rfl⟩
theorem tr : Hr T pr := ⟨rfl, rfl, rfl, rfl, rfl, rfl, rfl, rfl⟩
theorem tk : Hk T pr := ⟨rfl, rfl, rfl, rfl, rfl, rfl, rfl, rfl, rfl, rfl, rfl, rfl⟩
theorem evSs_nx {T : Tab} {cf : CF} {s : PS} {ss : PSs} {sl sl' : Sls} (h : evS T cf W s sl = .ok (.nx, sl')) : evSs T cf W (.cons s ss) sl = evSs T cf W ss sl' := by
  rw [evSs, h, Rs.bind_ok]
def tlE : PE := .tup (.cons (.bin .add (.bi .len (.cons (.call 5 (.cons (.var 2) (.cons (.var 6) .nil))) .nil)) (.cI 1)) (.cons (.var 6) .nil))
def mkO (k : Str) (t e l : Int) (S C : List D) : OP := .obj 0 [(0, .fz (.str k)), (1, .fz (.int t)), (2, .fz (.int e)), (3, .fz (.int l)), (4, .fz (.lst S)), (5, .fz (.lst C))]
def mkD (k : Str) (t e l : Int) (S C : List D) : D := .obj 0 [(0, .str k), (1, .int t), (2, .int e), (3, .int l), (4, .lst S), (5, .lst C)]
theorem mk_d (k : Str) (t e l : Int) (S C : List D) : (mkO k t e l S C).d = mkD k t e l S C := rfl
theorem tl_val {cf : CF} {wd md : D} {k : Str} {t e l : Int} {S C : List D} {R FD : List D} {z : Int} {w4 : Sl} (e2 : cf 5 [  .va (mkD k t e l S C), .va (.lst R)] = .ok (.fr (.lst FD), none)) (hf : (scs FD).isSome = true) :
    evE T cf tlE [.va wd, .va md, .ow true (mkO k t e l S C), .va (.int z), w4, .un, .ow true (.lst R)] = .ok (.va (.tup [.int ((FD.length : Int) + 1), .lst R]), [.va wd, .va md, .ow true (mkO k t e l S C), .va (.int z), w4, .un, .va (.lst R)]) := by
  unfold mkO at *
  unfold mkD at *
  unfold tlE
  simp [ioOf, T, d_5, List.findIdx?, List.findIdx?.go, e2, hf, sizeLine_eq]
theorem worst_tail {cf : CF} {wd md : D} {k : Str} {t e l : Int} {S C : List D} {R FD : List D} {z : Int} {w4 : Sl} (m1 : binD .mul (.lst [.int z]) md = .ok (.fr (.lst R))) (e2 : cf 5 [  .va (mkD k t e l S C), .va (.lst R)] = .ok (.fr (.lst FD), none)) (hf : (scs FD).isSome = true) :
    evSs T cf W (.cons (.asg 6 (.bin .mul (.lst (.cons (.var 3) .nil)) (.var 1))) (.cons (.ret tlE) .nil)) [.va wd, .va md, .ow true (mkO k t e l S C), .va (.int z), w4, .un, .un] = .ok (.ret (.va (.tup [.int ((FD.length : Int) + 1), .lst R])), [.va wd, .va md, .ow true (mkO k t e l S C), .va (.int z), w4, .un, .va (.lst R)]) := by
  have s1 : evS T cf W (.asg 6 (.bin .mul (.lst (.cons (.var 3) .nil)) (.var 1))) [.va wd, .va md, .ow true (mkO k t e l S C), .va (.int z), w4, .un, .un] = .ok (.nx, [.va wd, .va md, .ow true (mkO k t e l S C), .va (.int z), w4, .un, .ow true (.lst R)]) := by
    simp [m1, sizeLine_eq]
  rw [evSs_nx s1, evSs, evS, tl_val e2 hf]
  rfl
theorem worst_back {cf : CF} {wd md : D} {k : Str} {t e l z : Int} {S C B : List D} {w3 : Sl} {y : Int} {a : PE} (hw : Fr w3) (ea : evE T cf a [.va wd, .va md, .ow true (mkO k t e l S C), w3, .un, .un, .un] = .ok (.fr (.lst [.int y]), [.va wd, .va md, .ow true (mkO k t e l S C), w3, .un, .un, .un])) (e3 : cf 25 [.va (mkD k t e l S C), .va (.lst [.int y])] = .ok (.fr (.lst [.int z]), none)) :
    evS T cf W (.asg 3 (.ix (.meth (.var 2) 0 14 25 (.cons a .nil)) (.cI 0))) [.va wd, .va md, .ow true (mkO k t e l S C), w3, .un, .un, .un] = .ok (.nx, [.va wd, .va md, .ow true (mkO k t e l S C), .va (.int z), .un, .un, .un]) := by
  have a0 : atI [D.int z] 0 = some (.int z) := rfl
  unfold mkO at *
  unfold mkD at *
  rcases hw with rfl | ⟨_, rfl⟩ <;> simp [ioOf, T, d_25, List.findIdx?, List.findIdx?.go, ea, e3, a0]
theorem worst_kind {cf : CF} {wd md : D} {k k' : Str} {t e l : Int} {S C : List D} {w3 : Sl} {a : PSs} (sl : Sls) (hsl : sl = [.va wd, .va md, .ow true (mkO k t e l S C), w3, .un, .un, .un]) :
    evS T cf W (.ite (.cmp .eq (.fld (.var 2) 0 0) (.cS k')) a .nil) sl = if k = k' then evSs T cf W a sl else .ok (.nx, sl) := by
  subst hsl
  unfold mkO
  by_cases c : k = k' <;> simp [c, List.lookup]
theorem ev_worst (hW : 2000 ≤ W) (n : Nat) {gs : List (List Int)} {w : Bs} (h : WyOk gs w) {m : Nat} (hm : m ≤ 60) :
    evF T pr W (n + 7) 30 [.va (wayD gs w), .va (.int m)] = .ok (.va (.tup [.int ((enc (planOf gs w) (List.replicate m (wsg (planOf gs w)))).length + 1), .lst ((List.replicate m (wsg (planOf gs w))).map .int)]), none) := by
  have po := plan_ok h
  have e1 := ev_init hW tw n h
  generalize planOf gs w = p at po e1 ⊢
  generalize wayD gs w = wd at e1 ⊢
  obtain ⟨t3, t16, h0, h1⟩ := po.toTe
  have hw := wsg_ok po
  have vr : Vd p.t (List.replicate m (wsg p)) := fun x hx => by rw [List.eq_of_mem_replicate hx]; exact hw
  have e2 := ev_coded hW tw tc (n + 2) po vr (by simpa using hm)
  have e3 := ev_back (T := T) (pr := pr) (W := W) rfl (n + 5) po.sp (b := [p.t - 1]) (Vd.one (by omega)) (by simp)
  have m1 : binD .mul (.lst [.int (wsg p)]) (.int m) = .ok (.fr (.lst ((List.replicate m (wsg p)).map .int))) := by
    rw [mul_list (by omega) (by omega) (by simp), Int.toNat_natCast, List.map_replicate]
    congr 3
    clear e2 hm vr
    induction m with
    | zero => rfl
    | succ m ih => rw [List.replicate_succ, List.flatten_cons, ih]; rfl
  obtain ⟨_, hl⟩ := enc_ok po vr (by simpa using hm)
  have hfl : (scs ((List.replicate m (wsg p)).map D.int)).isSome = true := by rw [scs_int]; rfl
  have hpl := ev_pplain (W := W) tw (n + 5) po.toTe
  have c1 : cutA ((plL p.t p.e).map D.int) none (some 1) = [D.int (sg p.e 0)] := by
    have := cut_take ((plL p.t p.e).map D.int) 1
    rw [show ((1 : Nat) : Int) = 1 from rfl] at this
    rw [this, ← List.map_take]
    have e0 : (plL p.t p.e).take 1 = [sg p.e 0] := by
      have := rg_get (t := p.t - 1) (i := 0) (by simp; omega)
      unfold plL
      rw [← List.map_take]
      cases q : rg (p.t - 1) with
      | nil => rw [q] at this; cases this
      | cons a r =>
        rw [q] at this
        have : a = 0 := by simpa using this
        subst this
        rfl
    rw [e0]; rfl
  have r0 := sg_range h0 h1 (c := 0) (by omega) (by omega)
  have e4 := ev_back (T := T) (pr := pr) (W := W) rfl (n + 5) po.sp (b := [sg p.e 0]) (Vd.one ⟨r0.1, r0.2.1⟩) (by simp)
  simp only [List.map_cons, List.map_nil] at e3 e4
  generalize hR : (List.replicate m (wsg p)).map D.int = R at e2 m1 hfl ⊢
  generalize enc p (List.replicate m (wsg p)) = f at e2 hl ⊢
  unfold pD at e2 e3 e4 hpl
  rw [pF_def] at e2 e3 e4 hpl
  unfold pOF at e1
  unfold wsg at m1
  have s1 : evS T (evF T pr W (n + 6)) W (.asg 2 (.make 0 21 (.cons (.var 0) .nil))) [.va wd, .va (.int m), .un, .un, .un, .un, .un] = .ok (.nx, [.va wd, .va (.int m), .ow true (mkO p.k.str p.t p.e p.l (p.s.map .int) (p.c.map tupD)), .un, .un, .un, .un]) := by
    unfold mkO
    simp [ioOf, T, d_21, List.findIdx?, List.findIdx?.go, e1]
  have hff : (scs (f.map D.int)).isSome = true := by rw [scs_int]; rfl
  have hfln : ((f.map D.int).length : Int) + 1 = f.length + 1 := by rw [List.length_map]
  have s2 := worst_back (W := W) (cf := evF T pr W (n + 6)) (wd := wd) (md := .int m) (k := p.k.str) (t := p.t) (e := p.e) (l := p.l) (S := p.s.map .int) (C := p.c.map tupD) (w3 := .un) (B := []) (a := .lst (.cons (.bin .sub (.fld (.var 2) 0 1) (.cI 1)) .nil)) (.inl rfl) (by unfold mkO; simp [sizeLine_eq, List.lookup]) e3
  have tl := fun (z : Int) (w4 : Sl) m1 => worst_tail (W := W) (cf := evF T pr W (n + 6)) (wd := wd) (md := .int m) (R := R) (FD := f.map .int) (z := z) (w4 := w4) m1 e2 hff
  rw [hfln] at tl
  have key : ∃ sl, evSs T (evF T pr W (n + 6)) W b_30 [.va wd, .va (.int m), .un, .un, .un, .un, .un] = .ok (.ret (.va (.tup [.int ((f.length : Int) + 1), .lst R])), sl) := by
    show ∃ sl, evSs T (evF T pr W (n + 6)) W (.cons (.asg 2 (.make 0 21 (.cons (.var 0) .nil))) (.cons (.asg 3 (.ix (.meth (.var 2) 0 14 25 (.cons (.lst (.cons (.bin .sub (.fld (.var 2) 0 1) (.cI 1)) .nil)) .nil)) (.cI 0))) (.cons (.ite (.cmp .eq (.fld (.var 2) 0 0) (.cS "counts")) (.cons (.asg 3 (.ix (.meth (.var 2) 0 14 25 (.cons (.sl (.meth (.var 2) 0 12 23 .nil) .none (.some (.cI 1))) .nil)) (.cI 0))) .nil) (.nil)) (.cons (.ite (.cmp .eq (.fld (.var 2) 0 0) (.cS "codes")) (.cons (.asg 4 (c_30_0)) (.cons (.asg 3 (.bm .index (.var 4) (.cons (.bi .max1 (.cons (.var 4) .nil)) .nil))) .nil)) (.nil)) (.cons (.asg 6 (.bin .mul (.lst (.cons (.var 3) .nil)) (.var 1))) (.cons (.ret tlE) .nil)))))) _ = _
    rw [evSs_nx s1, evSs_nx s2]
    cases hk : p.k with
    | codes =>
      have hl16 := k_len po hk
      rw [hk] at m1 tl
      dsimp only at m1
      have e5 : ∀ w3, evE T (evF T pr W (n + 6)) c_30_0 [.va wd, .va (.int m), .ow true (.obj 0 [(0, .fz (.str Kd.codes.str)), (1, .fz (.int p.t)), (2, .fz (.int p.e)), (3, .fz (.int p.l)), (4, .fz (.lst (p.s.map .int))), (5, .fz (.lst (p.c.map tupD)))]), w3, .un, .un, .un] = .ok (.fr (.lst (p.c.filterMap fun c => some (.int (c.length : Int)))), [.va wd, .va (.int m), .ow true (.obj 0 [(0, .fz (.str Kd.codes.str)), (1, .fz (.int p.t)), (2, .fz (.int p.e)), (3, .fz (.int p.l)), (4, .fz (.lst (p.s.map .int))), (5, .fz (.lst (p.c.map tupD)))]), w3, .un, .un, .un]) := fun w3 => by
        refine evE_lc_pure tupD _ p.c ?_ ?_ ?_ fun c hc => ⟨[.va wd, .va (.int m), .ow true (.obj 0 [(0, .fz (.str Kd.codes.str)), (1, .fz (.int p.t)), (2, .fz (.int p.e)), (3, .fz (.int p.l)), (4, .fz (.lst (p.s.map .int))), (5, .fz (.lst (p.c.map tupD)))]), w3, .un, .va (tupD c), .un], ?_⟩
        · simp [List.lookup]
        · simp
        · rw [sizeLine_eq]; omega
        · simp [lcW]
      have e6 : p.c.filterMap (fun c => some (D.int (c.length : Int))) = (szs p).map .int := by
        rw [fm_some]; unfold szs; rw [List.map_map]; rfl
      rw [e6] at e5
      obtain ⟨_, hcl, _⟩ := po.kc hk
      have hne : szs p ≠ [] := fun q => by
        have := congrArg List.length q
        unfold szs at this
        rw [List.length_map] at this
        simp at this
        rw [this] at hcl
        simp at hcl; omega
      have hpos : 0 < (szs p).length := List.length_pos_iff.mpr hne
      have e7 : biD .max1 [.lst ((szs p).map .int)] = .ok (.va (.int (maxI (szs p)))) := by
        show (Rs.of (intsD ((szs p).map .int))).bind _ = _
        rw [intsD_of, Rs.of_some, Rs.bind_ok, if_pos hpos]
      have e8 := index_of (maxI_spec _ hne).1
      generalize szs p = Z at e5 e7 e8 m1
      generalize Z.map D.int = ZD at e5 e7 e8

      have hs3 := (worst_kind (W := W) (cf := evF T pr W (n + 6)) (k' := "counts") (a := .cons (.asg 3 (.ix (.meth (.var 2) 0 14 25 (.cons (.sl (.meth (.var 2) 0 12 23 .nil) .none (.some (.cI 1))) .nil)) (.cI 0))) .nil) [.va wd, .va (.int m), .ow true (mkO Kd.codes.str p.t p.e p.l (p.s.map .int) (p.c.map tupD)), .va (.int (bk p.s (p.t - 1))), .un, .un, .un] rfl).trans (if_neg st4)
      have hs4 := (worst_kind (W := W) (cf := evF T pr W (n + 6)) (k' := "codes") (a := .cons (.asg 4 (c_30_0)) (.cons (.asg 3 (.bm .index (.var 4) (.cons (.bi .max1 (.cons (.var 4) .nil)) .nil))) .nil)) [.va wd, .va (.int m), .ow true (mkO Kd.codes.str p.t p.e p.l (p.s.map .int) (p.c.map tupD)), .va (.int (bk p.s (p.t - 1))), .un, .un, .un] rfl).trans (if_pos rfl)
      have s5 : evS T (evF T pr W (n + 6)) W (.asg 4 c_30_0) [.va wd, .va (.int m), .ow true (mkO Kd.codes.str p.t p.e p.l (p.s.map .int) (p.c.map tupD)), .va (.int (bk p.s (p.t - 1))), .un, .un, .un] = .ok (.nx, [.va wd, .va (.int m), .ow true (mkO Kd.codes.str p.t p.e p.l (p.s.map .int) (p.c.map tupD)), .va (.int (bk p.s (p.t - 1))), .ow true (.lst ZD), .un, .un]) := by
        rw [evS]
        show (evE T (evF T pr W (n + 6)) c_30_0 [.va wd, .va (.int m), .ow true (.obj 0 [(0, .fz (.str Kd.codes.str)), (1, .fz (.int p.t)), (2, .fz (.int p.e)), (3, .fz (.int p.l)), (4, .fz (.lst (p.s.map .int))), (5, .fz (.lst (p.c.map tupD)))]), .va (.int (bk p.s (p.t - 1))), .un, .un, .un]).bind _ = _
        rw [e5]
        rfl
      have s6 : evS T (evF T pr W (n + 6)) W (.asg 3 (.bm .index (.var 4) (.cons (.bi .max1 (.cons (.var 4) .nil)) .nil))) [.va wd, .va (.int m), .ow true (mkO Kd.codes.str p.t p.e p.l (p.s.map .int) (p.c.map tupD)), .va (.int (bk p.s (p.t - 1))), .ow true (.lst ZD), .un, .un] = .ok (.nx, [.va wd, .va (.int m), .ow true (mkO Kd.codes.str p.t p.e p.l (p.s.map .int) (p.c.map tupD)), .va (.int (Z.idxOf (maxI Z) : Nat)), .ow true (.lst ZD), .un, .un]) := by
        generalize (mkO Kd.codes.str p.t p.e p.l (p.s.map .int) (p.c.map tupD)) = P
        simp [e7, e8]
      rw [evSs_nx hs3, evSs_nx (hs4.trans ((evSs_nx s5).trans ((evSs_nx s6).trans (by rw [evSs])))), tl _ _ m1]
      exact ⟨_, rfl⟩
    | counts =>
      rw [hk] at m1 hpl e4 tl
      dsimp only at m1
      have hs3 := (worst_kind (W := W) (cf := evF T pr W (n + 6)) (k' := "counts") (a := .cons (.asg 3 (.ix (.meth (.var 2) 0 14 25 (.cons (.sl (.meth (.var 2) 0 12 23 .nil) .none (.some (.cI 1))) .nil)) (.cI 0))) .nil) [.va wd, .va (.int m), .ow true (mkO Kd.counts.str p.t p.e p.l (p.s.map .int) (p.c.map tupD)), .va (.int (bk p.s (p.t - 1))), .un, .un, .un] rfl).trans (if_pos rfl)
      have hs4 := (worst_kind (W := W) (cf := evF T pr W (n + 6)) (k' := "codes") (a := .cons (.asg 4 (c_30_0)) (.cons (.asg 3 (.bm .index (.var 4) (.cons (.bi .max1 (.cons (.var 4) .nil)) .nil))) .nil)) [.va wd, .va (.int m), .ow true (mkO Kd.counts.str p.t p.e p.l (p.s.map .int) (p.c.map tupD)), .va (.int (bk p.s (sg p.e 0))), .un, .un, .un] rfl).trans (if_neg st1)
      have s5 := worst_back (W := W) (cf := evF T pr W (n + 6)) (wd := wd) (md := .int m) (k := Kd.counts.str) (t := p.t) (e := p.e) (l := p.l) (S := p.s.map .int) (C := p.c.map tupD) (w3 := .va (.int (bk p.s (p.t - 1)))) (B := []) (a := .sl (.meth (.var 2) 0 12 23 .nil) .none (.some (.cI 1))) (.inr ⟨_, rfl⟩) (by unfold mkO; simp [ioOf, T, d_23, List.findIdx?, List.findIdx?.go, hpl, c1]) e4
      rw [evSs_nx (hs3.trans ((evSs_nx s5).trans (by rw [evSs]))), evSs_nx hs4, tl _ _ m1]
      exact ⟨_, rfl⟩
    | ranks =>
      rw [hk] at m1 tl
      dsimp only at m1
      have hs3 := (worst_kind (W := W) (cf := evF T pr W (n + 6)) (k' := "counts") (a := .cons (.asg 3 (.ix (.meth (.var 2) 0 14 25 (.cons (.sl (.meth (.var 2) 0 12 23 .nil) .none (.some (.cI 1))) .nil)) (.cI 0))) .nil) [.va wd, .va (.int m), .ow true (mkO Kd.ranks.str p.t p.e p.l (p.s.map .int) (p.c.map tupD)), .va (.int (bk p.s (p.t - 1))), .un, .un, .un] rfl).trans (if_neg st3)
      have hs4 := (worst_kind (W := W) (cf := evF T pr W (n + 6)) (k' := "codes") (a := .cons (.asg 4 (c_30_0)) (.cons (.asg 3 (.bm .index (.var 4) (.cons (.bi .max1 (.cons (.var 4) .nil)) .nil))) .nil)) [.va wd, .va (.int m), .ow true (mkO Kd.ranks.str p.t p.e p.l (p.s.map .int) (p.c.map tupD)), .va (.int (bk p.s (p.t - 1))), .un, .un, .un] rfl).trans (if_neg st2)
      rw [evSs_nx hs3, evSs_nx hs4, tl _ _ m1]
      exact ⟨_, rfl⟩
  obtain ⟨sl, key⟩ := key
  rw [evF]
  simp [T, d_30, List.findIdx?, List.findIdx?.go, key]
/-- the power -/
theorem ev_power (n : Nat) {t : Int} (t3 : 2 ≤ t) (t16 : t ≤ 16) {m : Nat} (hm : m ≤ 400) : evF T pr W (n + 1) 72 [.va (.int t), .va (.int m)] = .ok (.va (.int (t ^ m)), none) := by
  obtain ⟨w, e⟩ : ∃ w, evS T (evF T pr W n) W w_72_0 [.va (.int t), .va (.int m), .va (.int 1), .un] = .ok (.nx, [.va (.int t), .va (.int m), .va (.int (t ^ m)), w]) := by
    unfold w_72_0
    rw [evS]
    have ei : evI T (evF T pr W n) (.rng1 (.var 1)) [.va (.int t), .va (.int m), .va (.int 1), .un] = .ok ((rg m).map .int, [.va (.int t), .va (.int m), .va (.int 1), .un]) := ei_rng (by omega) (by omega) (by simp)
    rw [ei, Rs.bind_ok]
    obtain ⟨sl', e', w, hw, es⟩ := forLoop_inv ((rg m).map D.int) (body := fun d sl => (giveT (.one 3) d sl).bind fun sl => evSs T (evF T pr W n) W (.cons (.asg 2 (.bin .mul (.var 2) (.var 0))) .nil) sl)
      (I := fun i sl => ∃ w, Fr w ∧ sl = [.va (.int t), .va (.int m), .va (.int (t ^ i)), w]) (sl := [.va (.int t), .va (.int m), .va (.int 1), .un]) ⟨.un, .inl rfl, by rw [Int.pow_zero]⟩ (fun i d sl hd ⟨w, hw, es⟩ => by
        obtain ⟨y, hy, rfl⟩ := get_map_int hd
        subst es
        have m1 : binD .mul (.int (t ^ i)) (.int t) = .ok (.va (.int (t ^ (i + 1)))) := by
          show (if _ then _ else _ : Rs Rv) = _
          rw [if_pos (.inr ⟨by omega, by omega⟩), Int.pow_succ]
        generalize t ^ (i + 1) = q at m1 ⊢
        generalize t ^ i = p at m1 ⊢
        refine ⟨[.va (.int t), .va (.int m), .va (.int q), .va (.int y)], ?_, .va (.int y), .inr ⟨_, rfl⟩, rfl⟩
        rcases hw with rfl | ⟨d', rfl⟩ <;> simp [m1])
    rw [List.length_map, rg_len, Int.toNat_natCast] at es
    exact ⟨w, by rw [e', es]⟩
  generalize t ^ m = q at e ⊢
  rw [evF]
  simp [T, d_72, b_72, List.findIdx?, List.findIdx?.go, e]
/-- the power -/
theorem ev_pow (n : Nat) {t : Int} (t3 : 2 ≤ t) (t16 : t ≤ 16) {m : Nat} (hm : m ≤ 400) : evF T pr W (n + 1) 33 [.va (.int t), .va (.int m)] = .ok (.va (.int (t ^ m)), none) := by
  obtain ⟨w, e⟩ : ∃ w, evS T (evF T pr W n) W w_33_0 [.va (.int t), .va (.int m), .va (.int 1), .un] = .ok (.nx, [.va (.int t), .va (.int m), .va (.int (t ^ m)), w]) := by
    unfold w_33_0
    rw [evS]
    have ei : evI T (evF T pr W n) (.rng1 (.var 1)) [.va (.int t), .va (.int m), .va (.int 1), .un] = .ok ((rg m).map .int, [.va (.int t), .va (.int m), .va (.int 1), .un]) := ei_rng (by omega) (by omega) (by simp)
    rw [ei, Rs.bind_ok]
    obtain ⟨sl', e', w, hw, es⟩ := forLoop_inv ((rg m).map D.int) (body := fun d sl => (giveT (.one 3) d sl).bind fun sl => evSs T (evF T pr W n) W (.cons (.asg 2 (.bin .mul (.var 2) (.var 0))) .nil) sl)
      (I := fun i sl => ∃ w, Fr w ∧ sl = [.va (.int t), .va (.int m), .va (.int (t ^ i)), w]) (sl := [.va (.int t), .va (.int m), .va (.int 1), .un]) ⟨.un, .inl rfl, by rw [Int.pow_zero]⟩ (fun i d sl hd ⟨w, hw, es⟩ => by
        obtain ⟨y, hy, rfl⟩ := get_map_int hd
        subst es
        have m1 : binD .mul (.int (t ^ i)) (.int t) = .ok (.va (.int (t ^ (i + 1)))) := by
          show (if _ then _ else _ : Rs Rv) = _
          rw [if_pos (.inr ⟨by omega, by omega⟩), Int.pow_succ]
        generalize t ^ (i + 1) = q at m1 ⊢
        generalize t ^ i = p at m1 ⊢
        refine ⟨[.va (.int t), .va (.int m), .va (.int q), .va (.int y)], ?_, .va (.int y), .inr ⟨_, rfl⟩, rfl⟩
        rcases hw with rfl | ⟨d', rfl⟩ <;> simp [m1])
    rw [List.length_map, rg_len, Int.toNat_natCast] at es
    exact ⟨w, by rw [e', es]⟩
  generalize t ^ m = q at e ⊢
  rw [evF]
  simp [T, d_33, b_33, List.findIdx?, List.findIdx?.go, e]
end K13

/-! K13n: the values of gone_on and frames_of -/
namespace K13
open PySem L2 Pf Pd Wm
variable {W : Nat}
/-! ### all states -/
def SSc (p : Pl) : List Wm.St := .row [] :: (p.c.map fun o => (List.range 5).map fun i => Wm.St.row (o.take i)).flatten
def SSn : List Wm.St := ((rg 16).map fun l => [Wm.St.grp l .none true, .grp l .none false, .grp l .part true, .grp l .part false, .grp l .full true, .grp l .full false]).flatten
def SS (p : Pl) : List Wm.St := if p.k = .codes then SSc p else SSn
theorem ssn_in {l : Int} {so : So} {b : Bool} : Wm.St.grp l so b ∈ SSn ↔ 0 ≤ l ∧ l < 16 := by
  unfold SSn
  rw [List.mem_flatten]
  constructor
  · rintro ⟨z, hz, h⟩
    obtain ⟨y, hy, rfl⟩ := List.mem_map.mp hz
    have := mem_rg.mp hy
    have e : l = y := by
      simp only [List.mem_cons, List.not_mem_nil, or_false, Wm.St.grp.injEq] at h
      rcases h with h | h | h | h | h | h <;> exact h.1
    rw [e]; exact this
  · intro h
    refine ⟨_, List.mem_map.mpr ⟨l, mem_rg.mpr h, rfl⟩, ?_⟩
    cases so <;> cases b <;> simp
theorem ss_len {p : Pl} (h : PlOk p) : (SS p).length ≤ 200 := by
  unfold SS
  by_cases c : p.k = .codes
  · rw [if_pos c]
    have := k_len h c
    have := Wm.flat_len 5 (p.c.map fun o => (List.range 5).map fun i => Wm.St.row (o.take i)) fun r hr => by
      obtain ⟨o, _, rfl⟩ := List.mem_map.mp hr
      rw [List.length_map, List.length_range]; exact Nat.le_refl _
    rw [List.length_map] at this
    unfold SSc
    rw [List.length_cons]
    omega
  · rw [if_neg c]; decide +kernel
theorem ss_st0 {p : Pl} (hk : p.k ≠ .ranks) : st0 p ∈ SS p := by
  unfold st0 SS
  by_cases c : p.k = .counts
  · rw [if_pos c, if_neg (by rw [c]; decide)]; exact ssn_in.mpr (by omega)
  · have c2 : p.k = .codes := by cases q : p.k <;> simp_all
    rw [if_neg c, if_pos c2]; exact List.mem_cons_self
theorem ss_stp {p : Pl} (h : PlOk p) {k : Nat} {s : Wm.St} (ho : StOk p k s) (hs : s ∈ SS p) (hk : p.k ≠ .ranks) {x : Int} (hx : (0 ≤ x ∧ x < p.t) ∧ x ≠ p.e) {q : Wm.St × List Int} (e : stp p s x = some q) : q.1 ∈ SS p := by
  have t16 := h.t16
  cases s with
  | row r =>
    have c0 : p.k = .codes := by
      have := ho.1
      cases q : p.k <;> simp_all
    unfold SS
    rw [if_pos c0]
    rw [stp_row, if_pos c0] at e
    by_cases c1 : r ++ [x] ∈ p.c
    · rw [if_pos c1] at e
      cases e; exact List.mem_cons_self
    · rw [if_neg c1] at e
      by_cases c2 : p.c.filter (fun o => decide (o.take (r.length + 1) = r ++ [x])) ≠ []
      · rw [if_pos c2] at e
        cases e
        obtain ⟨o, ho⟩ := List.exists_mem_of_ne_nil _ c2
        obtain ⟨o1, o2⟩ := List.mem_filter.mp ho
        have o2 : o.take (r.length + 1) = r ++ [x] := by simpa using o2
        have o3 := ((h.kc c0).2.2 o o1).2.1
        have o4 := congrArg List.length o2
        rw [List.length_take, List.length_append] at o4
        simp only [List.length_cons, List.length_nil] at o4
        refine List.mem_cons_of_mem _ (List.mem_flatten.mpr ⟨_, List.mem_map.mpr ⟨o, o1, rfl⟩, List.mem_map.mpr ⟨r.length + 1, List.mem_range.mpr (by omega), ?_⟩⟩)
        rw [o2]
      · rw [if_neg c2] at e; cases e
  | grp l so b =>
    have hc : p.k = .counts := ho
    have e2 : SS p = SSn := by unfold SS; rw [if_neg (by rw [hc]; decide)]
    rw [e2] at hs ⊢
    have hl := ssn_in.mp hs
    have hg := gs_range h.toTe hx
    have kn := h.kn hc
    rw [stp_grp] at e
    by_cases c : 0 < l
    · rw [if_pos c] at e; cases e; exact ssn_in.mpr (by omega)
    · rw [if_neg c] at e
      by_cases c1 : p.l < gs p.e x + 1
      · rw [if_pos c1] at e; cases e
      · rw [if_neg c1] at e
        by_cases c2 : gs p.e x + 1 = p.l
        · rw [if_pos c2] at e; cases e; exact ssn_in.mpr (by omega)
        · rw [if_neg c2] at e; cases e; exact ssn_in.mpr (by omega)
/-- counted states as they should be -/
def Gd (p : Pl) (k : Nat) (S : Sm) : Prop := (S.map (·.1)).Nodup ∧ ∀ s ∈ S.map (·.1), StOk p k s ∧ s ∈ SS p
theorem Gd.len {p : Pl} (h : PlOk p) {k : Nat} {S : Sm} (g : Gd p k S) : S.length ≤ 200 := by
  have := pigeon id _ (SS p) g.1 (fun _ _ _ _ e => e) fun s hs => (g.2 s hs).2
  rw [List.length_map] at this
  exact Nat.le_trans this (ss_len h)
theorem Gd.nil (p : Pl) (k : Nat) : Gd p k [] := ⟨List.nodup_nil, fun _ h => absurd h List.not_mem_nil⟩
theorem Gd.add {p : Pl} {k : Nat} {S : Sm} (g : Gd p k S) {s : Wm.St} (o : StOk p k s) (i : s ∈ SS p) (m : Nat) : Gd p k (addM S s m) := ⟨add_nodup S s m g.1, fun x hx => by
  rcases add_mem S s m hx with rfl | z
  · exact ⟨o, i⟩
  · exact g.2 x z⟩
/-! ### gone_on -/
abbrev gS (P Wd : D) (kvs : List (List D × D)) (w3 w4 w5 w6 : Sl) : Sls := [.va P, .va Wd, .ow true (.dcn kvs), w3, w4, w5, w6]
def g1 : PS := .asg 6 (.call 9 (.cons (.var 0) (.cons (.var 3) (.cons (.var 5) .nil))))
def g2 : PS := .ite (.notN (.var 6)) (.cons (.setkeyN 2 (.ix (.var 6) (.cI 0)) (.bin .add (.dgetN 2 (.ix (.var 6) (.cI 0)) (.cI 0)) (.var 4))) .nil) (.nil)
theorem g1_ok {cf : CF} {P Wd d3 d5 z : D} {kvs : List (List D × D)} {w4 w6 : Sl} (h6 : Fr w6) (hz : z = .non ∨ ∃ ds, z = .tup ds) (e : cf 9 [.va P, .va d3, .va d5] = .ok (.va z, none)) :
    evS T cf W g1 (gS P Wd kvs (.va d3) w4 (.va d5) w6) = .ok (.nx, gS P Wd kvs (.va d3) w4 (.va d5) (.va z)) := by
  unfold g1
  rcases hz with rfl | ⟨ds, rfl⟩ <;> rcases h6 with rfl | ⟨_, rfl⟩ <;> simp [ioOf, T, d_9, List.findIdx?, List.findIdx?.go, e]
theorem g2_none {cf : CF} {P Wd : D} {kvs : List (List D × D)} {w3 w4 w5 : Sl} :
    evS T cf W g2 (gS P Wd kvs w3 w4 w5 (.va .non)) = .ok (.nx, gS P Wd kvs w3 w4 w5 (.va .non)) := by
  unfold g2
  simp
theorem g2_some {cf : CF} {P Wd : D} {kvs kvs2 : List (List D × D)} {ks tl : List D} {lv : List Leaf} {m v : Int} {w3 w5 : Sl} (k : keyN (.tup ks) = some (ks, lv)) (l : (lookN kvs lv).getD (.int 0) = .int v) (pk : putN kvs ks lv (.int (v + m)) = kvs2) (hl : kvs.length < 16777216) :
    evS T cf W g2 (gS P Wd kvs w3 (.va (.int m)) w5 (.va (.tup (.tup ks :: tl)))) = .ok (.nx, gS P Wd kvs2 w3 (.va (.int m)) w5 (.va (.tup (.tup ks :: tl)))) := by
  unfold g2
  simp [k, l, pk, hl, sizeLine_eq]
abbrev gB : PSs := .cons g1 (.cons g2 .nil)
theorem g_sign (n : Nat) {p : Pl} (h : PlOk p) (hr : p.k ≠ .ranks) {k : Nat} (hk : k ≤ 1000) {s : Wm.St} (ho : StOk p k s) (hs : s ∈ SS p) (m : Nat) {x : Int} (hx : (0 ≤ x ∧ x < p.t) ∧ x ≠ p.e) {S : Sm} (g : Gd p (k + 1) S) (Wd : D) {w5 w6 : Sl} (h5 : Fr w5) (h6 : Fr w6) :
    ∃ (S' : Sm) (w6' : Sl), Fr w6' ∧ Gd p (k + 1) S' ∧ S' = inM p s m [x] S ∧ (giveT (.one 5) (.int x) (gS (pD p) Wd (S.map kv) (.va s.d) (.va (.int m)) w5 w6)).bind (fun sl => evSs T (evF T pr W (n + 3)) W gB sl) = .ok (.nx, gS (pD p) Wd (S'.map kv) (.va s.d) (.va (.int m)) (.va (.int x)) w6') := by
  have e := ev_step (W := W) tr tw n h hk ho hx
  have hg := g.len h
  have q0 : giveT (.one 5) (.int x) (gS (pD p) Wd (S.map kv) (.va s.d) (.va (.int m)) w5 w6) = .ok (gS (pD p) Wd (S.map kv) (.va s.d) (.va (.int m)) (.va (.int x)) w6) := by
    rcases h5 with rfl | ⟨_, rfl⟩ <;> rfl
  have q1 := g1_ok (W := W) (Wd := Wd) (kvs := S.map kv) (w4 := .va (.int m)) h6 (by cases stp p s x with
    | none => exact .inl rfl
    | some q => exact .inr ⟨_, rfl⟩) e
  cases q : stp p s x with
  | none =>
    rw [q] at q1
    refine ⟨S, .va .non, .inr ⟨_, rfl⟩, g, ?_, ?_⟩
    · show S = (match stp p s x with | none => S | some q => addM S q.1 m)
      rw [q]
    · rw [q0, Rs.bind_ok, evSs_nx q1]
      show evSs _ _ _ (.cons g2 .nil) (gS (pD p) Wd (S.map kv) (.va s.d) (.va (.int m)) (.va (.int x)) (.va .non)) = _
      rw [evSs_nx g2_none, evSs]
  | some z =>
    rw [q] at q1
    obtain ⟨o2, _⟩ := stp_ok (st' := z.1) (told := z.2) ho hx q
    have i2 := ss_stp h ho hs hr hx q
    refine ⟨addM S z.1 m, .va (stD (some z)), .inr ⟨_, rfl⟩, g.add o2 i2 m, ?_, ?_⟩
    · show _ = (match stp p s x with | none => S | some q => addM S q.1 m)
      rw [q]
    · have k1 : keyN (.tup (sds z.1)) = some (sds z.1, lvs z.1) := by
        show (lfDs (sds z.1)).map _ = _
        rw [lf_sds]; rfl
      have q2 := g2_some (W := W) (cf := evF T pr W (n + 3)) (P := pD p) (Wd := Wd) (w3 := .va s.d) (w5 := .va (.int x)) (tl := [.lst (z.2.map .int)]) (m := m) k1 (look_kv S z.1) (put_kv S z.1 m g.1) (by rw [List.length_map]; omega)
      have e3 : stD (some z) = .tup [.tup (sds z.1), .lst (z.2.map .int)] := by
        show D.tup [z.1.d, _] = _
        rw [st_d]
      rw [e3] at q1 ⊢
      rw [q0, Rs.bind_ok, evSs_nx q1, evSs_nx q2, evSs]
theorem g_signs (n : Nat) {p : Pl} (h : PlOk p) (hr : p.k ≠ .ranks) {k : Nat} (hk : k ≤ 1000) {s : Wm.St} (ho : StOk p k s) (hs : s ∈ SS p) (m : Nat) (Wd : D) : ∀ (xs : List Int) (S : Sm) (w5 w6 : Sl), (∀ x ∈ xs, (0 ≤ x ∧ x < p.t) ∧ x ≠ p.e) → Gd p (k + 1) S → Fr w5 → Fr w6 →
    ∃ (w5' w6' : Sl), Fr w5' ∧ Fr w6' ∧ Gd p (k + 1) (inM p s m xs S) ∧ forLoop (fun d sl => (giveT (.one 5) d sl).bind fun sl => evSs T (evF T pr W (n + 3)) W gB sl) (xs.map .int) (gS (pD p) Wd (S.map kv) (.va s.d) (.va (.int m)) w5 w6) = .ok (.nx, gS (pD p) Wd ((inM p s m xs S).map kv) (.va s.d) (.va (.int m)) w5' w6')
  | [], S, w5, w6, _, g, h5, h6 => ⟨w5, w6, h5, h6, g, rfl⟩
  | x :: xs, S, w5, w6, hx, g, h5, h6 => by
    obtain ⟨S', w6', h6', g', eS, e⟩ := g_sign (W := W) n h hr hk ho hs m (hx x List.mem_cons_self) g Wd h5 h6
    obtain ⟨w5'', w6'', h5'', h6'', g'', e''⟩ := g_signs n h hr hk ho hs m Wd xs S' (.va (.int x)) w6' (fun y hy => hx y (List.mem_cons_of_mem _ hy)) g' (.inr ⟨_, rfl⟩) h6'
    have e1 : inM p s m (x :: xs) S = inM p s m xs S' := by rw [eS]; rfl
    rw [e1]
    refine ⟨w5'', w6'', h5'', h6'', g'', ?_⟩
    rw [List.map_cons, forLoop, e, Rs.bind_ok]
    exact e''
theorem g_states (n : Nat) {p : Pl} (h : PlOk p) (hr : p.k ≠ .ranks) {k : Nat} (hk : k ≤ 1000) (Wd : D) : ∀ (L S : Sm) (w3 w4 w5 w6 : Sl), (∀ q ∈ L, StOk p k q.1 ∧ q.1 ∈ SS p) → Gd p (k + 1) S → Fr w3 → Fr w4 → Fr w5 → Fr w6 →
    ∃ (w3' w4' w5' w6' : Sl), Gd p (k + 1) (goM p L S) ∧ forLoop (fun d sl => (giveT (.many [3, 4]) d sl).bind fun sl => evSs T (evF T pr W (n + 3)) W (.cons (w_31_0) .nil) sl) ((L.map kv).map fun kv => .tup [.tup kv.1, kv.2]) (gS (pD p) Wd (S.map kv) w3 w4 w5 w6) = .ok (.nx, gS (pD p) Wd ((goM p L S).map kv) w3' w4' w5' w6')
  | [], S, w3, w4, w5, w6, _, g, _, _, _, _ => ⟨w3, w4, w5, w6, g, rfl⟩
  | q :: L, S, w3, w4, w5, w6, hL, g, h3, h4, h5, h6 => by
    obtain ⟨o, i⟩ := hL q List.mem_cons_self
    obtain ⟨w5', w6', h5', h6', g', e⟩ := g_signs (W := W) n h hr hk o i q.2 Wd (plL p.t p.e) S w5 w6 (fun x hx => (mem_plL h.e0 h.e1).mp hx) g h5 h6
    obtain ⟨w3'', w4'', w5'', w6'', g'', e''⟩ := g_states n h hr hk Wd L (inM p q.1 q.2 (plL p.t p.e) S) (.va q.1.d) (.va (.int q.2)) w5' w6' (fun y hy => hL y (List.mem_cons_of_mem _ hy)) g' (.inr ⟨_, rfl⟩) (.inr ⟨_, rfl⟩) h5' h6'
    refine ⟨w3'', w4'', w5'', w6'', g'', ?_⟩
    have q0 : giveT (.many [3, 4]) (.tup [.tup (kv q).1, (kv q).2]) (gS (pD p) Wd (S.map kv) w3 w4 w5 w6) = .ok (gS (pD p) Wd (S.map kv) (.va q.1.d) (.va (.int q.2)) w5 w6) := by
      rw [st_d]
      rcases h3 with rfl | ⟨_, rfl⟩ <;> rcases h4 with rfl | ⟨_, rfl⟩ <;> rfl
    have ep := ev_pplain (pr := pr) (W := W) tw (n + 2) h.toTe
    have q1 : evS T (evF T pr W (n + 3)) W w_31_0 (gS (pD p) Wd (S.map kv) (.va q.1.d) (.va (.int q.2)) w5 w6) = .ok (.nx, gS (pD p) Wd ((inM p q.1 q.2 (plL p.t p.e) S).map kv) (.va q.1.d) (.va (.int q.2)) w5' w6') := by
      unfold w_31_0
      rw [evS]
      have ei : evI T (evF T pr W (n + 3)) (.of (.meth (.var 0) 0 12 23 .nil)) (gS (pD p) Wd (S.map kv) (.va q.1.d) (.va (.int q.2)) w5 w6) = .ok ((plL p.t p.e).map .int, gS (pD p) Wd (S.map kv) (.va q.1.d) (.va (.int q.2)) w5 w6) := by
        have fl : (scs ((plL p.t p.e).map D.int)).isSome = true := by rw [scs_int]; rfl
        generalize (plL p.t p.e).map D.int = PL at ep fl
        simp [ioOf, T, d_23, List.findIdx?, List.findIdx?.go, ep, fl, pF, List.lookup]
      rw [ei, Rs.bind_ok]
      exact e
    rw [List.map_cons, List.map_cons, forLoop, q0, Rs.bind_ok, evSs_nx q1, evSs, Rs.bind_ok]
    exact e''
theorem ev_goneon (n : Nat) {p : Pl} (h : PlOk p) (hr : p.k ≠ .ranks) {k : Nat} (hk : k ≤ 1000) {L : Sm} (g : Gd p k L) :
    Gd p (k + 1) (goM p L []) ∧ evF T pr W (n + 4) 31 [.va (pD p), .va (.dcn (L.map kv))] = .ok (.fr (.dcn ((goM p L []).map kv)), none) := by
  obtain ⟨w3, w4, w5, w6, g', e⟩ := g_states (W := W) n h hr hk (.dcn (L.map kv)) L [] .un .un .un .un (fun q hq => g.2 q.1 (List.mem_map.mpr ⟨q, hq, rfl⟩)) (Gd.nil p _) (.inl rfl) (.inl rfl) (.inl rfl) (.inl rfl)
  refine ⟨g', ?_⟩
  have q1 : evS T (evF T pr W (n + 3)) W w_31_1 (gS (pD p) (.dcn (L.map kv)) [] .un .un .un .un) = .ok (.nx, gS (pD p) (.dcn (L.map kv)) ((goM p L []).map kv) w3 w4 w5 w6) := by
    unfold w_31_1
    rw [evS]
    have ei : evI T (evF T pr W (n + 3)) (.items (.var 1)) (gS (pD p) (.dcn (L.map kv)) [] .un .un .un .un) = .ok ((L.map kv).map (fun kv => .tup [.tup kv.1, kv.2]), gS (pD p) (.dcn (L.map kv)) [] .un .un .un .un) := by
      generalize L.map kv = LD
      simp
    rw [ei, Rs.bind_ok]
    exact e
  generalize (goM p L []).map kv = GD at q1 ⊢
  generalize L.map kv = LD at q1 ⊢
  rw [evF]
  simp [T, d_31, b_31, List.findIdx?, List.findIdx?.go, q1]
end K13

/-! K13p: the value of frames_of -/
namespace K13
open PySem L2 Pf Pd Wm
variable {W : Nat}
abbrev fS (wd : D) (m : Int) (w2 w3 w4 : Sl) : Sls := [.va wd, .va (.int m), w2, w3, w4, .un, .un]
def f1 : PS := .asg 2 (.make 0 21 (.cons (.var 0) .nil))
def f2 : PS := .ite (.cmp .lt (.var 1) (.cI 1)) (.cons (.ret (.cI 0)) .nil) (.nil)
def f3 : PS := .ite (.cmp .eq (.fld (.var 2) 0 0) (.cS "ranks")) (.cons (.ret (.call 33 (.cons (.bin .sub (.fld (.var 2) 0 1) (.cI 1)) (.cons (.bin .sub (.var 1) (.cI 1)) .nil)))) .nil) (.nil)
def f4 : PS := .asg 3 (.ddispN (.call 6 (.cons (.var 2) .nil)) (.cI 1))
theorem f1_ok {cf : CF} {wd : D} {m : Int} {fs : List (Nat × F)} (e : cf 21 [.ow false (.obj 0 []), .va wd] = .ok (.va .non, some (.obj 0 fs))) :
    evS T cf W f1 (fS wd m .un .un .un) = .ok (.nx, fS wd m (.ow true (.obj 0 fs)) .un .un) := by
  unfold f1
  simp [ioOf, T, d_21, List.findIdx?, List.findIdx?.go, e]
theorem f2_no {cf : CF} {wd : D} {m : Int} {w2 : Sl} (h : ¬ m < 1) : evS T cf W f2 (fS wd m w2 .un .un) = .ok (.nx, fS wd m w2 .un .un) := by
  unfold f2
  simp [h]
theorem f2_yes {cf : CF} {wd : D} {m : Int} {w2 : Sl} (h : m < 1) : evS T cf W f2 (fS wd m w2 .un .un) = .ok (.ret (.va (.int 0)), fS wd m w2 .un .un) := by
  unfold f2
  simp [h]
theorem f3_no {cf : CF} {wd : D} {m : Int} {p : Pl} (h : p.k ≠ .ranks) : evS T cf W f3 (fS wd m (.ow true (.obj 0 (pOF p))) .un .un) = .ok (.nx, fS wd m (.ow true (.obj 0 (pOF p))) .un .un) := by
  have : ¬ p.k.str = "ranks" := fun e => by
    cases q : p.k with
    | codes => rw [q] at e; exact absurd e (by decide)
    | counts => rw [q] at e; exact absurd e (by decide)
    | ranks => exact h q
  unfold f3 pOF
  simp [List.lookup, this]
theorem f3_yes {cf : CF} {wd : D} {m y : Int} {p : Pl} (h : p.k = .ranks) (e : cf 33 [.va (.int (p.t - 1)), .va (.int (m - 1))] = .ok (.va (.int y), none)) : evS T cf W f3 (fS wd m (.ow true (.obj 0 (pOF p))) .un .un) = .ok (.ret (.va (.int y)), fS wd m (.ow true (.obj 0 (pOF p))) .un .un) := by
  unfold f3 pOF
  simp [List.lookup, h, Kd.str, ioOf, T, d_33, List.findIdx?, List.findIdx?.go, e]
theorem f4_ok {cf : CF} {wd : D} {m : Int} {p : Pl} {ks : List D} {lv : List Leaf} (e : cf 6 [.va (pD p)] = .ok (.va (.tup ks), none)) (k : keyN (.tup ks) = some (ks, lv)) :
    evS T cf W f4 (fS wd m (.ow true (.obj 0 (pOF p))) .un .un) = .ok (.nx, fS wd m (.va (pD p)) (.ow true (.dcn [(ks, .int 1)])) .un) := by
  unfold pD at e ⊢
  rw [pF_def] at e ⊢
  unfold f4 pOF
  simp [ioOf, T, d_6, List.findIdx?, List.findIdx?.go, e, k]
def f5 : PS := .asg 3 (.call 31 (.cons (.var 2) (.cons (.var 3) .nil)))
theorem f5_ok {cf : CF} {wd P : D} {m : Int} {kvs kvs2 : List (List D × D)} {w4 : Sl} (e : cf 31 [.va P, .va (.dcn kvs)] = .ok (.fr (.dcn kvs2), none)) :
    evS T cf W f5 (fS wd m (.va P) (.ow true (.dcn kvs)) w4) = .ok (.nx, fS wd m (.va P) (.ow true (.dcn kvs2)) w4) := by
  unfold f5
  simp [ioOf, T, d_31, List.findIdx?, List.findIdx?.go, e]
theorem gd0 {p : Pl} (hr : p.k ≠ .ranks) : Gd p 0 (itM p 0) := ⟨by simp [itM], fun s hs => by
  rw [show (itM p 0).map (·.1) = [st0 p] from rfl] at hs
  rw [List.mem_singleton.mp hs]
  exact ⟨st0_ok p, ss_st0 hr⟩⟩
theorem ints_sum {p : Pl} : ∀ L : Sm, ∃ ns : List Int, intsD (L.filterMap fun q => if (lst p q.1).isSome = true then some (D.int (q.2 : Nat)) else none) = some ns ∧ ns.sum = (wsum (acc p) L : Nat)
  | [] => ⟨[], rfl, rfl⟩
  | q :: L => by
    obtain ⟨ns, e1, e2⟩ := ints_sum (p := p) L
    rw [List.filterMap_cons]
    unfold wsum acc
    by_cases c : (lst p q.1).isSome = true
    · rw [if_pos c, if_pos c]
      refine ⟨(q.2 : Nat) :: ns, ?_, ?_⟩
      · show (intsD _).map _ = _
        rw [e1]; rfl
      · rw [List.sum_cons, e2]
        unfold acc
        omega
    · rw [if_neg c, if_neg c]
      refine ⟨ns, e1, ?_⟩
      rw [e2]
      unfold acc
      omega
theorem ev_frames (hW : 2000 ≤ W) (n : Nat) {gs : List (List Int)} {w : Bs} (h : WyOk gs w) {m : Nat} (hm : m ≤ 400) :
    evF T pr W (n + 7) 32 [.va (wayD gs w), .va (.int m)] = .ok (.va (.int (frN (planOf gs w) m : Nat)), none) := by
  have po := plan_ok h
  have e1 := ev_init hW tw n h
  generalize planOf gs w = p at po e1 ⊢
  generalize wayD gs w = wd at e1 ⊢
  obtain ⟨t3, t16, h0, h1⟩ := po.toTe
  have q1 := f1_ok (W := W) (m := m) e1
  have key : ∃ sl, evSs T (evF T pr W (n + 6)) W b_32 (fS wd m .un .un .un) = .ok (.ret (.va (.int (frN p m : Nat))), sl) := by
    show ∃ sl, evSs T (evF T pr W (n + 6)) W (.cons f1 (.cons f2 (.cons f3 (.cons f4 (.cons w_32_0 (.cons (.ret (.bi .sum (.cons (c_32_0) .nil))) .nil)))))) _ = _
    rw [evSs_nx q1]
    cases m with
    | zero =>
      have q2 := f2_yes (W := W) (cf := evF T pr W (n + 6)) (wd := wd) (m := ((0 : Nat) : Int)) (w2 := .ow true (.obj 0 (pOF p))) (by omega)
      exact ⟨fS wd ((0 : Nat) : Int) (.ow true (.obj 0 (pOF p))) .un .un, by rw [evSs, q2]; rfl⟩
    | succ m =>
      have q2 := f2_no (W := W) (cf := evF T pr W (n + 6)) (wd := wd) (m := ((m + 1 : Nat) : Int)) (w2 := .ow true (.obj 0 (pOF p))) (by omega)
      rw [evSs_nx q2]
      show ∃ sl, _ = Rs.ok (Fl.ret (.va (.int (FrN p m : Nat))), sl)
      by_cases hr : p.k = .ranks
      · have e33 := ev_pow (W := W) (n + 5) (t := p.t - 1) (by omega) (by omega) (m := m) (by omega)
        have em : ((m + 1 : Nat) : Int) - 1 = (m : Nat) := by omega
        have q3 := f3_yes (W := W) (cf := evF T pr W (n + 6)) (wd := wd) (m := ((m + 1 : Nat) : Int)) (y := (p.t - 1) ^ m) hr (by rw [em]; exact e33)
        have ef : ((FrN p m : Nat) : Int) = (p.t - 1) ^ m := by
          rw [fr_ranks hr, Int.natCast_pow, Int.toNat_of_nonneg (by omega)]
        rw [ef]
        exact ⟨fS wd ((m + 1 : Nat) : Int) (.ow true (.obj 0 (pOF p))) .un .un, by rw [evSs, q3]; rfl⟩
      · have q3 := f3_no (W := W) (cf := evF T pr W (n + 6)) (wd := wd) (m := ((m + 1 : Nat) : Int)) hr
        have e6 := ev_first (pr := pr) (W := W) tr (n + 5) (p := p)
        rw [st_d] at e6
        have k1 : keyN (.tup (sds (st0 p))) = some (sds (st0 p), lvs (st0 p)) := by
          show (lfDs (sds (st0 p))).map _ = _
          rw [lf_sds]; rfl
        have q4 := f4_ok (W := W) (wd := wd) (m := ((m + 1 : Nat) : Int)) e6 k1
        obtain ⟨w4, q5⟩ : ∃ w4, Gd p m (itM p m) ∧ evS T (evF T pr W (n + 6)) W w_32_0 (fS wd ((m + 1 : Nat) : Int) (.va (pD p)) (.ow true (.dcn ((itM p 0).map kv))) .un) = .ok (.nx, fS wd ((m + 1 : Nat) : Int) (.va (pD p)) (.ow true (.dcn ((itM p m).map kv))) w4) := by
          unfold w_32_0
          rw [evS]
          have ei : evI T (evF T pr W (n + 6)) (.rng1 (.bin .sub (.var 1) (.cI 1))) (fS wd ((m + 1 : Nat) : Int) (.va (pD p)) (.ow true (.dcn ((itM p 0).map kv))) .un) = .ok ((rg (m : Nat)).map .int, fS wd ((m + 1 : Nat) : Int) (.va (pD p)) (.ow true (.dcn ((itM p 0).map kv))) .un) := by
            refine ei_rng (by omega) (by omega) ?_
            simp
          rw [ei, Rs.bind_ok]
          obtain ⟨sl', e', g, w, hw, es⟩ := forLoop_inv ((rg (m : Nat)).map D.int) (body := fun d sl => (giveT (.one 4) d sl).bind fun sl => evSs T (evF T pr W (n + 6)) W (.cons f5 .nil) sl)
            (I := fun i sl => Gd p i (itM p i) ∧ ∃ w, Fr w ∧ sl = fS wd ((m + 1 : Nat) : Int) (.va (pD p)) (.ow true (.dcn ((itM p i).map kv))) w) (sl := fS wd ((m + 1 : Nat) : Int) (.va (pD p)) (.ow true (.dcn ((itM p 0).map kv))) .un) ⟨gd0 hr, .un, .inl rfl, rfl⟩ (fun i d sl hd ⟨g, w, hw, es⟩ => by
              have hi : i < m := by
                have := (List.getElem?_eq_some_iff.mp hd).1
                rwa [List.length_map, rg_len, Int.toNat_natCast] at this
              obtain ⟨g', eg⟩ := ev_goneon (W := W) (n + 2) po hr (k := i) (by omega) g
              subst es
              refine ⟨fS wd ((m + 1 : Nat) : Int) (.va (pD p)) (.ow true (.dcn ((itM p (i + 1)).map kv))) (.va d), ?_, g', .va d, .inr ⟨_, rfl⟩, rfl⟩
              have q0 : giveT (.one 4) d (fS wd ((m + 1 : Nat) : Int) (.va (pD p)) (.ow true (.dcn ((itM p i).map kv))) w) = .ok (fS wd ((m + 1 : Nat) : Int) (.va (pD p)) (.ow true (.dcn ((itM p i).map kv))) (.va d)) := by
                rcases hw with rfl | ⟨_, rfl⟩ <;> rfl
              rw [q0, Rs.bind_ok, evSs_nx (f5_ok eg), evSs]
              rfl)
          rw [List.length_map, rg_len, Int.toNat_natCast] at es g
          exact ⟨w, g, by rw [← es]; exact e'⟩
        obtain ⟨gm, q5⟩ := q5
        have hl := gm.len po
        have e5 : ∀ w4, evE T (evF T pr W (n + 6)) c_32_0 (fS wd ((m + 1 : Nat) : Int) (.va (pD p)) (.ow true (.dcn ((itM p m).map kv))) w4) = .ok (.fr (.lst ((itM p m).filterMap fun q => if (lst p q.1).isSome = true then some (D.int (q.2 : Nat)) else none)), fS wd ((m + 1 : Nat) : Int) (.va (pD p)) (.va (.dcn ((itM p m).map kv))) w4) := fun w4 => by
          refine evE_lc_pure (fun q => D.tup [.tup (kv q).1, (kv q).2]) _ (itM p m) ?_ ?_ ?_ fun q hq => ⟨[.va wd, .va (.int ((m + 1 : Nat) : Int)), .va (pD p), .va (.dcn ((itM p m).map kv)), w4, .va q.1.d, .va (.int (q.2 : Nat))], ?_⟩
          · have em : (itM p m).map (fun q => D.tup [.tup (kv q).1, (kv q).2]) = ((itM p m).map kv).map fun kv => D.tup [.tup kv.1, kv.2] := by rw [List.map_map]; rfl
            rw [em]
            generalize (itM p m).map kv = LD
            simp
          · simp
          · rw [sizeLine_eq]; omega
          · have o := (gm.2 q.1 (List.mem_map.mpr ⟨q, hq, rfl⟩)).1
            have el := ev_last (T := T) (pr := pr) hW tr tw (n + 4) po (by omega) o
            have ed : D.tup (kv q).1 = q.1.d := (st_d q.1).symm
            have ev : (kv q).2 = .int (q.2 : Nat) := rfl
            rw [ed, ev]
            generalize (itM p m).map kv = LD
            generalize ((m + 1 : Nat) : Int) = mi
            generalize ((q.2 : Nat) : Int) = mq
            generalize lst p q.1 = o at el ⊢
            generalize q.1.d = qd at el ⊢
            cases o with
            | none =>
              unfold lsR at el
              simp [lcW, ioOf, T, d_10, List.findIdx?, List.findIdx?.go, el]
            | some b =>
              unfold lsR at el
              have fb : (scs (b.map D.int)).isSome = true := by rw [scs_int]; rfl
              dsimp only at el
              generalize b.map D.int = BD at el fb
              simp [lcW, ioOf, T, d_10, List.findIdx?, List.findIdx?.go, el, fb]
        obtain ⟨ns, n1, n2⟩ := ints_sum (p := p) (itM p m)
        rw [it_taken] at n2
        have q6 : evS T (evF T pr W (n + 6)) W (.ret (.bi .sum (.cons (c_32_0) .nil))) (fS wd ((m + 1 : Nat) : Int) (.va (pD p)) (.ow true (.dcn ((itM p m).map kv))) w4) = .ok (.ret (.va (.int (FrN p m : Nat))), fS wd ((m + 1 : Nat) : Int) (.va (pD p)) (.va (.dcn ((itM p m).map kv))) w4) := by
          have e5 := e5 w4
          rw [← n2]
          generalize (itM p m).filterMap _ = X at n1 e5
          generalize (itM p m).map kv = LD at e5 ⊢
          have bs : biD .sum [.lst X] = .ok (.va (.int ns.sum)) := by
            show (Rs.of (intsD X)).bind _ = _
            rw [n1]; rfl
          generalize ((m + 1 : Nat) : Int) = mi at e5 ⊢
          simp [e5, bs]
        refine ⟨fS wd ((m + 1 : Nat) : Int) (.va (pD p)) (.va (.dcn ((itM p m).map kv))) w4, ?_⟩
        rw [evSs_nx q3, evSs_nx q4]
        show evSs T (evF T pr W (n + 6)) W (.cons w_32_0 (.cons (.ret (.bi .sum (.cons (c_32_0) .nil))) .nil)) (fS wd ((m + 1 : Nat) : Int) (.va (pD p)) (.ow true (.dcn ((itM p 0).map kv))) .un) = _
        rw [evSs_nx q5, evSs, q6]
        rfl
  obtain ⟨sl, key⟩ := key
  rw [evF]
  simp [T, d_32, List.findIdx?, List.findIdx?.go, key]
end K13

/-! K13q: the law -/
namespace K13
open PySem L2 Pf Pd Wm
variable {W : Nat}
abbrev uS (x : D) (sd : List D) (w2 w3 w4 w5 w6 w7 w8 w9 w10 : Sl) : Sls := [.va x, .ow true (.lst sd), w2, w3, w4, w5, w6, w7, w8, w9, w10, .un]
/-! ### sums -/
theorem rg_sum (f : Nat → Nat) (n : Nat) : ∃ ns : List Int, (rg (n : Nat)).filterMap (fun x => some (D.int (f x.toNat : Nat))) = ns.map .int ∧ ns.sum = (((List.range n).map f).sum : Nat) := by
  refine ⟨(List.range n).map fun i => (f i : Int), ?_, ?_⟩
  · rw [fm_some]
    unfold rg
    rw [List.map_map, List.map_map, Int.toNat_natCast]
    exact List.map_congr_left fun i _ => by simp
  · induction List.range n with
    | nil => rfl
    | cons i l ih => rw [List.map_cons, List.sum_cons, ih, List.map_cons, List.sum_cons]; omega
theorem sum_ints (ns : List Int) : biD .sum [.lst (ns.map .int)] = .ok (.va (.int ns.sum)) := by
  show (Rs.of (intsD (ns.map .int))).bind _ = _
  rw [intsD_of]; rfl
theorem c2_ok {cf : CF} {x : D} {sd : List D} {w2 w3 w5 w7 w8 w9 w10 : Sl} {t : Int} {m : Nat} (hm : m ≤ 100) (f : Nat → Nat) (h : ∀ k : Nat, k ≤ m → cf 72 [.va (.int t), .va (.int k)] = .ok (.va (.int (f k : Nat)), none)) :
    evE T cf c_80_2 (uS x sd w2 w3 (.va (.int t)) w5 (.va (.int m)) w7 w8 w9 w10) = .ok (.fr (.lst ((rg ((m + 1 : Nat) : Int)).filterMap fun x => some (D.int (f x.toNat : Nat)))), uS x sd w2 w3 (.va (.int t)) w5 (.va (.int m)) w7 w8 w9 w10) := by
  refine evE_lc_pure (fun y : Int => D.int y) _ (rg ((m + 1 : Nat) : Int)) ?_ ?_ ?_ fun y hy => ⟨[.va x, .ow true (.lst sd), w2, w3, .va (.int t), w5, .va (.int m), w7, w8, w9, w10, .va (.int y)], ?_⟩
  · refine ei_rng (by omega) (by omega) ?_
    simp
  · simp
  · rw [sizeLine_eq, rg_len]; omega
  · have hy := mem_rg.mp hy
    have e := h y.toNat (by omega)
    rw [Int.toNat_of_nonneg hy.1] at e
    generalize ((f y.toNat : Nat) : Int) = z at e ⊢
    simp [lcW, ioOf, T, d_72, List.findIdx?, List.findIdx?.go, e]
theorem c1_ok {cf : CF} {x d9 wd : D} {sd : List D} {w2 w4 w5 w6 w7 w10 : Sl} {m : Nat} (hm : m ≤ 350) (f : Nat → Nat) (h : ∀ k : Nat, k ≤ m → cf 32 [.va wd, .va (.int k)] = .ok (.va (.int (f k : Nat)), none)) :
    evE T cf c_80_1 (uS x sd w2 (.va wd) w4 w5 w6 w7 (.va (.int m)) (.va d9) w10) = .ok (.fr (.lst ((rg ((m + 1 : Nat) : Int)).filterMap fun x => some (D.int (f x.toNat : Nat)))), uS x sd w2 (.va wd) w4 w5 w6 w7 (.va (.int m)) (.va d9) w10) := by
  refine evE_lc_pure (fun y : Int => D.int y) _ (rg ((m + 1 : Nat) : Int)) ?_ ?_ ?_ fun y hy => ⟨[.va x, .ow true (.lst sd), w2, .va wd, w4, w5, w6, w7, .va (.int m), .va (.int y), w10, .un], ?_⟩
  · refine ei_rng (by omega) (by omega) ?_
    simp
  · simp
  · rw [sizeLine_eq, rg_len]; omega
  · have hy := mem_rg.mp hy
    have e := h y.toNat (by omega)
    rw [Int.toNat_of_nonneg hy.1] at e
    generalize ((f y.toNat : Nat) : Int) = z at e ⊢
    simp [lcW, ioOf, T, d_32, List.findIdx?, List.findIdx?.go, e]
theorem c0_ok {cf : CF} {x d9 wd : D} {sd : List D} {w2 w4 w5 w7 w8 w10 : Sl} {m : Nat} (hm : m ≤ 350) (f : Nat → Nat) (h : ∀ k : Nat, k ≤ m + 1 → cf 32 [.va wd, .va (.int k)] = .ok (.va (.int (f k : Nat)), none)) :
    evE T cf c_80_0 (uS x sd w2 (.va wd) w4 w5 (.va (.int m)) w7 w8 (.va d9) w10) = .ok (.fr (.lst ((rg ((m + 2 : Nat) : Int)).filterMap fun x => some (D.int (f x.toNat : Nat)))), uS x sd w2 (.va wd) w4 w5 (.va (.int m)) w7 w8 (.va d9) w10) := by
  refine evE_lc_pure (fun y : Int => D.int y) _ (rg ((m + 2 : Nat) : Int)) ?_ ?_ ?_ fun y hy => ⟨[.va x, .ow true (.lst sd), w2, .va wd, w4, w5, .va (.int m), w7, w8, .va (.int y), w10, .un], ?_⟩
  · refine ei_rng (by omega) (by omega) ?_
    simp
  · simp
  · rw [sizeLine_eq, rg_len]; omega
  · have hy := mem_rg.mp hy
    have e := h y.toNat (by omega)
    rw [Int.toNat_of_nonneg hy.1] at e
    generalize ((f y.toNat : Nat) : Int) = z at e ⊢
    simp [lcW, ioOf, T, d_32, List.findIdx?, List.findIdx?.go, e]
/-! ### three rooms -/
def v1 : PS := .asg 9 (.bin .add (.cI 1) (.call 51 (.cons (.var 1) (.cons (.cI 60) .nil))))
def v2 : PS := .asg 10 (.call 32 (.cons (.var 3) (.cons (.var 9) .nil)))
def v3 : PS := .ite (.or (.cons (.not (.call 52 (.cons (.var 10) (.cons (.bi .int (.cons (.var 10) .nil)) .nil)))) (.cons (.not (.chain .le .le (.cI 0) (.var 10) (.call 72 (.cons (.bin .sub (.var 4) (.cI 1)) (.cons (.bin .sub (.var 9) (.cI 1)) .nil))))) .nil))) (.cons (.ret (.cB false)) .nil) (.nil)
def v4 : PS := .ite (.and (.cons (.cmp .eq (.ix (.call 59 (.cons (.var 3) .nil)) (.cI 0)) (.cS "ranks")) (.cons (.cmp .ne (.var 10) (.call 72 (.cons (.bin .sub (.var 4) (.cI 1)) (.cons (.bin .sub (.var 9) (.cI 1)) .nil)))) .nil))) (.cons (.ret (.cB false)) .nil) (.nil)
theorem v1_ok {cf : CF} {x : D} {sd sd' : List D} {w2 w3 w4 w5 w6 w7 w8 w9 w10 : Sl} {r : Int} (h9 : Fr w9) (e : cf 51 [.ow false (.lst sd), .va (.int 60)] = .ok (.va (.int r), some (.lst sd'))) (f : (scs sd').isSome = true) :
    evS T cf W v1 (uS x sd w2 w3 w4 w5 w6 w7 w8 w9 w10) = .ok (.nx, uS x sd' w2 w3 w4 w5 w6 w7 w8 (.va (.int (1 + r))) w10) := by
  unfold v1
  rcases h9 with rfl | ⟨_, rfl⟩ <;> simp [ioOf, T, d_51, List.findIdx?, List.findIdx?.go, e, f]
theorem v2_ok {cf : CF} {x wd d9 : D} {sd : List D} {w2 w4 w5 w6 w7 w8 w10 : Sl} {y : Int} (h10 : Fr w10) (e : cf 32 [.va wd, .va d9] = .ok (.va (.int y), none)) :
    evS T cf W v2 (uS x sd w2 (.va wd) w4 w5 w6 w7 w8 (.va d9) w10) = .ok (.nx, uS x sd w2 (.va wd) w4 w5 w6 w7 w8 (.va d9) (.va (.int y))) := by
  unfold v2
  rcases h10 with rfl | ⟨_, rfl⟩ <;> simp [ioOf, T, d_32, List.findIdx?, List.findIdx?.go, e]
theorem v3_ok {cf : CF} {x : D} {sd : List D} {w2 w3 w5 w6 w7 w8 : Sl} {t s y q : Int} (al : cf 52 [.va (.int y), .va (.int y)] = .ok (.va (.bl true), none)) (e : cf 72 [.va (.int (t - 1)), .va (.int (s - 1))] = .ok (.va (.int q), none)) (h0 : 0 ≤ y) (h1 : y ≤ q) :
    evS T cf W v3 (uS x sd w2 w3 (.va (.int t)) w5 w6 w7 w8 (.va (.int s)) (.va (.int y))) = .ok (.nx, uS x sd w2 w3 (.va (.int t)) w5 w6 w7 w8 (.va (.int s)) (.va (.int y))) := by
  have bi : biD .int [.int y] = .ok (.va (.int y)) := rfl
  unfold v3
  simp [ioOf, T, d_52, d_72, List.findIdx?, List.findIdx?.go, al, bi, e, h0, h1]
theorem v4_ok {cf : CF} {x wd : D} {sd : List D} {w2 w5 w6 w7 w8 : Sl} {t s y q : Int} {k : Str} {r : List D} (e59 : cf 59 [.va wd] = .ok (.va (.tup (.str k :: r)), none)) (e : cf 72 [.va (.int (t - 1)), .va (.int (s - 1))] = .ok (.va (.int q), none)) (hk : k = "ranks" → y = q) :
    evS T cf W v4 (uS x sd w2 (.va wd) (.va (.int t)) w5 w6 w7 w8 (.va (.int s)) (.va (.int y))) = .ok (.nx, uS x sd w2 (.va wd) (.va (.int t)) w5 w6 w7 w8 (.va (.int s)) (.va (.int y))) := by
  unfold v4
  by_cases c : k = "ranks"
  · subst c
    obtain rfl := hk rfl
    simp [ioOf, T, d_59, d_72, List.findIdx?, List.findIdx?.go, e59, e]
  · simp [ioOf, T, d_59, d_72, List.findIdx?, List.findIdx?.go, e59, e, c]
theorem ranks_of {gs : List (List Int)} {w : Bs} (h : w.w = "ranks") : (planOf gs w).k = .ranks := by
  cases w with
  | codes t e cs => exact absurd h (by show ¬ (("codes" : Str) = "ranks"); decide)
  | esc t e m ps => exact absurd h (by show ¬ (("escapes" : Str) = "ranks"); decide)
  | cnt t e l => exact absurd h (by show ¬ (("counts" : Str) = "ranks"); decide)
  | rnk t e => rfl
theorem frames_most {p : Pl} (h : PlOk p) (n : Nat) : ((FrN p n : Nat) : Int) ≤ (p.t - 1) ^ n := by
  have t3 := h.t3
  have := Int.ofNat_le.mpr (fr_most p n)
  rw [Int.natCast_pow, Int.toNat_of_nonneg (by omega)] at this
  exact this
theorem frames_ranks {p : Pl} (h : PlOk p) (hk : p.k = .ranks) (n : Nat) : ((FrN p n : Nat) : Int) = (p.t - 1) ^ n := by
  have t3 := h.t3
  rw [fr_ranks hk, Int.natCast_pow, Int.toNat_of_nonneg (by omega)]
theorem time_turn (hW : 2000 ≤ W) (n : Nat) (x d5 : D) (s : Dc) {gs : List (List Int)} {w : Bs} (h : WyOk gs w) {w2 w6 w7 w8 w9 w10 : Sl} (h9 : Fr w9) (h10 : Fr w10) :
    ∃ (s' : Dc) (w9' w10' : D), evSs T (evF T pr W (n + 11)) W (.cons v1 (.cons v2 (.cons v3 (.cons v4 .nil)))) (uS x s.l w2 (.va (wayD gs w)) (.va (.int w.t)) (.va d5) w6 w7 w8 w9 w10) = .ok (.nx, uS x s'.l w2 (.va (wayD gs w)) (.va (.int w.t)) (.va d5) w6 w7 w8 (.va w9') (.va w10')) := by
  have po := plan_ok h
  obtain ⟨pt, _⟩ := plan_te gs w
  have t3 := h.t3
  have t16 := h.t16
  have hgl := h.gl
  have o1 := ev_off (pr := pr) (W := W) tk.h51 (n + 10) s 60 (by omega) (by omega)
  have r1 := offP_range s 60 (by omega)
  have f1 := flat_l (offP s 60).2
  generalize (offP s 60).1 = r at o1 r1
  generalize (offP s 60).2 = s1 at o1 f1
  obtain ⟨k, rfl⟩ : ∃ k : Nat, r = k := ⟨r.toNat, by omega⟩
  have ef := ev_frames (W := W) hW (n + 4) h (m := k + 1) (by omega)
  have e2 : (1 : Int) + (k : Nat) = ((k + 1 : Nat) : Int) := by omega
  have ep := ev_power (W := W) (n + 10) (t := w.t - 1) (by omega) (by omega) (m := k) (by omega)
  have e59 := ev_lcore (pr := pr) hW tk.h59 (n + 10) gs (by omega) w
  have q1 := v1_ok (W := W) (x := x) (w2 := w2) (w3 := .va (wayD gs w)) (w4 := .va (.int w.t)) (w5 := .va d5) (w6 := w6) (w7 := w7) (w8 := w8) (w10 := w10) h9 o1 f1
  rw [e2] at q1
  have q2 := v2_ok (W := W) (x := x) (sd := s1.l) (w2 := w2) (w4 := .va (.int w.t)) (w5 := .va d5) (w6 := w6) (w7 := w7) (w8 := w8) h10 ef
  have al : evF T pr W (n + 11) 52 [.va (.int (frN (planOf gs w) (k + 1) : Nat)), .va (.int (frN (planOf gs w) (k + 1) : Nat))] = .ok (.va (.bl true), none) := ev_alike rfl (n + 10) 0 _ trivial
  have em : ((k + 1 : Nat) : Int) - 1 = (k : Nat) := by omega
  have hm := frames_most po k
  rw [pt] at hm
  have q3 := v3_ok (W := W) (x := x) (sd := s1.l) (w2 := w2) (w3 := .va (wayD gs w)) (w5 := .va d5) (w6 := w6) (w7 := w7) (w8 := w8) (t := w.t) (s := ((k + 1 : Nat) : Int)) (q := (w.t - 1) ^ k) al (by rw [em]; exact ep) (by omega) hm
  have q4 := v4_ok (W := W) (cf := evF T pr W (n + 11)) (x := x) (sd := s1.l) (w2 := w2) (wd := wayD gs w) (w5 := .va d5) (w6 := w6) (w7 := w7) (w8 := w8) (t := w.t) (s := ((k + 1 : Nat) : Int)) (y := (frN (planOf gs w) (k + 1) : Nat)) (q := (w.t - 1) ^ k) e59 (by rw [em]; exact ep) (fun hk => by
    have := frames_ranks po (ranks_of (gs := gs) hk) k
    rw [pt] at this
    exact this)
  exact ⟨s1, _, _, by rw [evSs_nx q1, evSs_nx q2, evSs_nx q3, evSs_nx q4, evSs]⟩
theorem times (hW : 2000 ≤ W) (n : Nat) (x : D) (s : Dc) {gs : List (List Int)} {w : Bs} (h : WyOk gs w) {w2 w5 w6 w7 w8 w9 w10 : Sl} (h5 : Fr w5) (h9 : Fr w9) (h10 : Fr w10) :
    ∃ (s' : Dc) (w5' w9' w10' : D), evS T (evF T pr W (n + 11)) W w_80_0 (uS x s.l w2 (.va (wayD gs w)) (.va (.int w.t)) w5 w6 w7 w8 w9 w10) = .ok (.nx, uS x s'.l w2 (.va (wayD gs w)) (.va (.int w.t)) (.va w5') w6 w7 w8 (.va w9') (.va w10')) := by
  unfold w_80_0
  rw [evS]
  have ei : evI T (evF T pr W (n + 11)) (.rng1 (.cI 3)) (uS x s.l w2 (.va (wayD gs w)) (.va (.int w.t)) w5 w6 w7 w8 w9 w10) = .ok ((rg 3).map .int, uS x s.l w2 (.va (wayD gs w)) (.va (.int w.t)) w5 w6 w7 w8 w9 w10) := ei_rng (by decide) (by decide) (by simp)
  rw [ei, Rs.bind_ok]
  obtain ⟨sl', e', s', w5', w9', w10', h5', h9', h10', es⟩ := forLoop_inv ((rg 3).map D.int) (body := fun d sl => (giveT (.one 5) d sl).bind fun sl => evSs T (evF T pr W (n + 11)) W (.cons v1 (.cons v2 (.cons v3 (.cons v4 .nil)))) sl)
    (I := fun i sl => ∃ (s' : Dc) (w5' w9' w10' : Sl), (if i = 0 then Fr w5' else ∃ d, w5' = .va d) ∧ (if i = 0 then Fr w9' else ∃ d, w9' = .va d) ∧ (if i = 0 then Fr w10' else ∃ d, w10' = .va d) ∧ sl = uS x s'.l w2 (.va (wayD gs w)) (.va (.int w.t)) w5' w6 w7 w8 w9' w10')
    (sl := uS x s.l w2 (.va (wayD gs w)) (.va (.int w.t)) w5 w6 w7 w8 w9 w10)
    ⟨s, w5, w9, w10, h5, h9, h10, rfl⟩ (fun i d sl hd ⟨s', w5', w9', w10', h5', h9', h10', es⟩ => by
      have fr : ∀ w, (if i = 0 then Fr w else ∃ d, w = .va d) → Fr w := fun w h => by
        by_cases c : i = 0
        · rw [if_pos c] at h; exact h
        · rw [if_neg c] at h; exact .inr h
      subst es
      obtain ⟨s'', d9, d10, e⟩ := time_turn (W := W) hW n x d s' h (w2 := w2) (w6 := w6) (w7 := w7) (w8 := w8) (fr _ h9') (fr _ h10')
      refine ⟨uS x s''.l w2 (.va (wayD gs w)) (.va (.int w.t)) (.va d) w6 w7 w8 (.va d9) (.va d10), ?_, s'', .va d, .va d9, .va d10, ⟨_, rfl⟩, ⟨_, rfl⟩, ⟨_, rfl⟩, rfl⟩
      rw [← e]
      rcases fr _ h5' with rfl | ⟨_, rfl⟩ <;> rfl)
  obtain ⟨d5, rfl⟩ := (show ∃ d, w5' = .va d from h5')
  obtain ⟨d9, rfl⟩ := (show ∃ d, w9' = .va d from h9')
  obtain ⟨d10, rfl⟩ := (show ∃ d, w10' = .va d from h10')
  exact ⟨s', d5, d9, d10, by rw [← es]; exact e'⟩
/-! ### a turn -/
def u1 : PS := .asg 3 (.call 63 (.cons (.var 1) .nil))
def u2 : PS := .asg 4 (.call 60 (.cons (.var 3) .nil))
def u3 : PS := .asg 6 (.call 51 (.cons (.var 1) (.cons (.cI 15) .nil)))
def u4 : PS := .asg 7 (.bi .sum (.cons (c_80_2) .nil))
def u5 : PS := .asg 8 (.ix (.call 30 (.cons (.var 3) (.cons (.var 6) .nil))) (.cI 0))
def u6 : PS := .ite (.cmp .lt (.bi .sum (.cons (c_80_1) .nil)) (.var 7)) (.cons (.ret (.cB false)) .nil) (.nil)
def u7 : PS := .ite (.cmp .gt (.bi .sum (.cons (c_80_0) .nil)) (.var 7)) (.cons (.ret (.cB false)) .nil) (.nil)
theorem u1_ok {cf : CF} {x : D} {sd sd' : List D} {w2 w3 w4 w5 w6 w7 w8 w9 w10 : Sl} {WL : List D} (h3 : Fr w3) (e : cf 63 [.ow false (.lst sd)] = .ok (.va (.tup WL), some (.lst sd'))) :
    evS T cf W u1 (uS x sd w2 w3 w4 w5 w6 w7 w8 w9 w10) = .ok (.nx, uS x sd' w2 (.va (.tup WL)) w4 w5 w6 w7 w8 w9 w10) := by
  unfold u1
  rcases h3 with rfl | ⟨_, rfl⟩ <;> simp [ioOf, T, d_63, List.findIdx?, List.findIdx?.go, e]
theorem u2_ok {cf : CF} {x wd : D} {sd : List D} {w2 w4 w5 w6 w7 w8 w9 w10 : Sl} {t : Int} (h4 : Fr w4) (e : cf 60 [.va wd] = .ok (.va (.int t), none)) :
    evS T cf W u2 (uS x sd w2 (.va wd) w4 w5 w6 w7 w8 w9 w10) = .ok (.nx, uS x sd w2 (.va wd) (.va (.int t)) w5 w6 w7 w8 w9 w10) := by
  unfold u2
  rcases h4 with rfl | ⟨_, rfl⟩ <;> simp [ioOf, T, d_60, List.findIdx?, List.findIdx?.go, e]
theorem u3_ok {cf : CF} {x : D} {sd sd' : List D} {w2 w3 w4 w5 w6 w7 w8 w9 w10 : Sl} {r : Int} (h6 : Fr w6) (e : cf 51 [.ow false (.lst sd), .va (.int 15)] = .ok (.va (.int r), some (.lst sd'))) (f : (scs sd').isSome = true) :
    evS T cf W u3 (uS x sd w2 w3 w4 w5 w6 w7 w8 w9 w10) = .ok (.nx, uS x sd' w2 w3 w4 w5 (.va (.int r)) w7 w8 w9 w10) := by
  unfold u3
  rcases h6 with rfl | ⟨_, rfl⟩ <;> simp [ioOf, T, d_51, List.findIdx?, List.findIdx?.go, e, f]
theorem u4_ok {cf : CF} {x : D} {sd : List D} {w2 w3 w4 w5 w6 w7 w8 w9 w10 : Sl} {X : List D} {y : Int} (h7 : Fr w7) (e : evE T cf c_80_2 (uS x sd w2 w3 w4 w5 w6 w7 w8 w9 w10) = .ok (.fr (.lst X), uS x sd w2 w3 w4 w5 w6 w7 w8 w9 w10)) (b : biD .sum [.lst X] = .ok (.va (.int y))) :
    evS T cf W u4 (uS x sd w2 w3 w4 w5 w6 w7 w8 w9 w10) = .ok (.nx, uS x sd w2 w3 w4 w5 w6 (.va (.int y)) w8 w9 w10) := by
  unfold u4
  rcases h7 with rfl | ⟨_, rfl⟩ <;> simp [e, b]
theorem u5_ok {cf : CF} {x wd md : D} {sd : List D} {w2 w4 w5 w7 w8 w9 w10 : Sl} {r : Int} {q : D} (h8 : Fr w8) (e : cf 30 [.va wd, .va md] = .ok (.va (.tup [.int r, q]), none)) :
    evS T cf W u5 (uS x sd w2 (.va wd) w4 w5 (.va md) w7 w8 w9 w10) = .ok (.nx, uS x sd w2 (.va wd) w4 w5 (.va md) w7 (.va (.int r)) w9 w10) := by
  unfold u5
  rcases h8 with rfl | ⟨_, rfl⟩ <;> simp [ioOf, T, d_30, List.findIdx?, List.findIdx?.go, e]
theorem u6_ok {cf : CF} {x : D} {sd : List D} {w2 w3 w4 w5 w6 w8 w9 w10 : Sl} {X : List D} {y b : Int} (e : evE T cf c_80_1 (uS x sd w2 w3 w4 w5 w6 (.va (.int b)) w8 w9 w10) = .ok (.fr (.lst X), uS x sd w2 w3 w4 w5 w6 (.va (.int b)) w8 w9 w10)) (s : biD .sum [.lst X] = .ok (.va (.int y))) (h : ¬ y < b) :
    evS T cf W u6 (uS x sd w2 w3 w4 w5 w6 (.va (.int b)) w8 w9 w10) = .ok (.nx, uS x sd w2 w3 w4 w5 w6 (.va (.int b)) w8 w9 w10) := by
  unfold u6
  simp [e, s, h]
theorem u7_ok {cf : CF} {x : D} {sd : List D} {w2 w3 w4 w5 w6 w8 w9 w10 : Sl} {X : List D} {y b : Int} (e : evE T cf c_80_0 (uS x sd w2 w3 w4 w5 w6 (.va (.int b)) w8 w9 w10) = .ok (.fr (.lst X), uS x sd w2 w3 w4 w5 w6 (.va (.int b)) w8 w9 w10)) (s : biD .sum [.lst X] = .ok (.va (.int y))) (h : ¬ b < y) :
    evS T cf W u7 (uS x sd w2 w3 w4 w5 w6 (.va (.int b)) w8 w9 w10) = .ok (.nx, uS x sd w2 w3 w4 w5 w6 (.va (.int b)) w8 w9 w10) := by
  unfold u7
  simp [e, s, h]
def uB : PSs := .cons u1 (.cons u2 (.cons w_80_0 (.cons u3 (.cons u4 (.cons u5 (.cons u6 (.cons u7 .nil)))))))
theorem law_turn (hW : 2000 ≤ W) (n : Nat) (x : D) (s : Dc) (w2 w3 w4 w5 w6 w7 w8 w9 w10 : Sl) (h3 : Fr w3) (h4 : Fr w4) (h5 : Fr w5) (h6 : Fr w6) (h7 : Fr w7) (h8 : Fr w8) (h9 : Fr w9) (h10 : Fr w10) :
    ∃ (s' : Dc) (d3 d4 d5 d6 d7 d8 d9 d10 : D), evSs T (evF T pr W (n + 11)) W uB (uS x s.l w2 w3 w4 w5 w6 w7 w8 w9 w10) = .ok (.nx, uS x s'.l w2 (.va d3) (.va d4) (.va d5) (.va d6) (.va d7) (.va d8) (.va d9) (.va d10)) := by
  obtain ⟨gs, w, s1, h, e1⟩ := ev_lway (n := n + 6) hW tk s
  have e2 := ev_ltop (n := n + 9) hW tk gs (by have := h.gl; omega) w
  obtain ⟨s2, d5, d9, d10, et⟩ := times (W := W) hW n x s1 h (w2 := w2) (w6 := w6) (w7 := w7) (w8 := w8) h5 h9 h10
  have o3 := ev_off (pr := pr) (W := W) tk.h51 (n + 10) s2 15 (by omega) (by omega)
  have r3 := offP_range s2 15 (by omega)
  have f3 := flat_l (offP s2 15).2
  generalize (offP s2 15).1 = r at o3 r3
  generalize (offP s2 15).2 = s3 at o3 f3
  obtain ⟨m, rfl⟩ : ∃ m : Nat, r = m := ⟨r.toNat, by omega⟩
  have t3 := h.t3
  have t16 := h.t16
  have po := plan_ok h
  obtain ⟨pt, _⟩ := plan_te gs w
  have e30 := ev_worst (W := W) (n := n + 4) hW h (m := m) (by omega)
  have hws := wsg_ok po
  have vB : Vd (planOf gs w).t (List.replicate m (wsg (planOf gs w))) := fun y hy => by rw [List.eq_of_mem_replicate hy]; exact hws
  have hfl : (enc (planOf gs w) (List.replicate m (wsg (planOf gs w)))).length ≤ 300 := (enc_ok po vB (by rw [List.length_replicate]; omega)).2
  have low := fr_low po (m := m) (by omega)
  have high := fr_high po m
  have fr := fun (k : Nat) (hk : k ≤ 400) => ev_frames (W := W) hW (n + 4) h (m := k) hk
  generalize (List.replicate m (wsg (planOf gs w))) = B at e30 hfl low
  generalize enc (planOf gs w) B = E at e30 hfl low
  have eR : ((E.length : Int) + 1) = ((E.length + 1 : Nat) : Int) := by omega
  rw [eR] at e30
  have s2a := fr_sum (planOf gs w) (E.length + 1)
  have s2b := fr_sum (planOf gs w) (m + 1)
  have ep := fun (k : Nat) (hk : k ≤ 400) => ev_power (W := W) (n + 10) (t := w.t) (by omega) t16 (m := k) hk
  have ep2 : ∀ k : Nat, k ≤ m → evF T pr W (n + 11) 72 [.va (.int w.t), .va (.int k)] = .ok (.va (.int ((fun k => (rg (planOf gs w).t).length ^ k) k : Nat)), none) := fun k hk => by
    rw [ep k (by omega)]
    dsimp only
    rw [rg_len, pt, Int.natCast_pow, Int.toNat_of_nonneg (by omega)]
  obtain ⟨n1, a1, b1⟩ := rg_sum (fun k => (rg (planOf gs w).t).length ^ k) (m + 1)
  obtain ⟨n2, a2, b2⟩ := rg_sum (frN (planOf gs w)) (E.length + 2)
  obtain ⟨n3, a3, b3⟩ := rg_sum (frN (planOf gs w)) (m + 2)
  rw [← to_len] at b1
  have q1 := u1_ok (W := W) (x := x) (w2 := w2) (w4 := w4) (w5 := w5) (w6 := w6) (w7 := w7) (w8 := w8) (w9 := w9) (w10 := w10) (sd := s.l) (sd' := s1.l) (cf := evF T pr W (n + 11)) h3 (WL := match wayD gs w with | .tup l => l | _ => []) (by
    obtain ⟨WL, hWL⟩ := way_tup gs w
    rw [hWL] at e1 ⊢
    exact e1)
  have ew : D.tup (match wayD gs w with | .tup l => l | _ => []) = wayD gs w := by
    obtain ⟨WL, hWL⟩ := way_tup gs w
    rw [hWL]
  rw [ew] at q1
  have q2 := u2_ok (W := W) (x := x) (sd := s1.l) (w2 := w2) (w5 := w5) (w6 := w6) (w7 := w7) (w8 := w8) (w9 := w9) (w10 := w10) h4 e2
  have q3 := u3_ok (W := W) (x := x) (w2 := w2) (w3 := .va (wayD gs w)) (w4 := .va (.int w.t)) (w5 := .va d5) (w7 := w7) (w8 := w8) (w9 := .va d9) (w10 := .va d10) h6 o3 f3
  have q4 := u4_ok (W := W) h7 (c2_ok (cf := evF T pr W (n + 11)) (x := x) (sd := s3.l) (w2 := w2) (w3 := .va (wayD gs w)) (w5 := .va d5) (w7 := w7) (w8 := w8) (w9 := .va d9) (w10 := .va d10) (by omega) _ ep2) (by rw [a1]; exact sum_ints n1)
  have q5 := u5_ok (W := W) (x := x) (sd := s3.l) (w2 := w2) (w4 := .va (.int w.t)) (w5 := .va d5) (w7 := .va (.int n1.sum)) (w9 := .va d9) (w10 := .va d10) h8 e30
  have q6 := u6_ok (W := W) (b := n1.sum) (c1_ok (cf := evF T pr W (n + 11)) (x := x) (d9 := d9) (wd := wayD gs w) (sd := s3.l) (w2 := w2) (w4 := .va (.int w.t)) (w5 := .va d5) (w6 := .va (.int m)) (w7 := .va (.int n1.sum)) (w10 := .va d10) (m := E.length + 1) (by omega) (frN (planOf gs w)) (fun k hk => fr k (by omega))) (by rw [a2]; exact sum_ints n2) (by rw [b1, b2, s2a]; omega)
  have q7 := u7_ok (W := W) (b := n1.sum) (c0_ok (cf := evF T pr W (n + 11)) (x := x) (d9 := d9) (wd := wayD gs w) (sd := s3.l) (w2 := w2) (w4 := .va (.int w.t)) (w5 := .va d5) (w7 := .va (.int n1.sum)) (w8 := .va (.int ((E.length + 1 : Nat) : Int))) (w10 := .va d10) (m := m) (by omega) (frN (planOf gs w)) (fun k hk => fr k (by omega))) (by rw [a3]; exact sum_ints n3) (by rw [b1, b3, s2b]; omega)
  refine ⟨s3, wayD gs w, .int w.t, d5, .int m, .int n1.sum, .int ((E.length + 1 : Nat) : Int), d9, d10, ?_⟩
  unfold uB
  rw [evSs_nx q1, evSs_nx q2, evSs_nx et, evSs_nx q3, evSs_nx q4, evSs_nx q5, evSs_nx q6, evSs_nx q7, evSs]
theorem law_true (hW : 2000 ≤ W) (n : Nat) (ns : List Int) (hl : ns.length ≤ 63) : evF T pr W (n + 12) 80 [.va (.scr ns)] = .ok (.va (.bl true), none) := by
  obtain ⟨s, e0⟩ := ev_dice (pr := pr) (W := W) tk (n + 10) ns hl 0
  obtain ⟨sl, e5⟩ : ∃ sl, evS T (evF T pr W (n + 11)) W w_80_1 (uS (.scr ns) s.l .un .un .un .un .un .un .un .un .un) = .ok (.nx, sl) := by
    unfold w_80_1
    rw [evS]
    have ei : evI T (evF T pr W (n + 11)) (.rng1 (.cI 2)) (uS (.scr ns) s.l .un .un .un .un .un .un .un .un .un) = .ok ((rg 2).map .int, uS (.scr ns) s.l .un .un .un .un .un .un .un .un .un) := ei_rng (by decide) (by decide) (by simp)
    rw [ei, Rs.bind_ok]
    obtain ⟨sl', e', _⟩ := forLoop_inv ((rg 2).map D.int) (body := fun d sl => (giveT (.one 2) d sl).bind fun sl => evSs T (evF T pr W (n + 11)) W uB sl)
      (I := fun i sl => ∃ (s' : Dc) (w2 w3 w4 w5 w6 w7 w8 w9 w10 : Sl), (Fr w2 ∧ Fr w3 ∧ Fr w4 ∧ Fr w5 ∧ Fr w6 ∧ Fr w7 ∧ Fr w8 ∧ Fr w9 ∧ Fr w10) ∧ sl = uS (.scr ns) s'.l w2 w3 w4 w5 w6 w7 w8 w9 w10)
      (sl := uS (.scr ns) s.l .un .un .un .un .un .un .un .un .un)
      ⟨s, .un, .un, .un, .un, .un, .un, .un, .un, .un, ⟨.inl rfl, .inl rfl, .inl rfl, .inl rfl, .inl rfl, .inl rfl, .inl rfl, .inl rfl, .inl rfl⟩, rfl⟩ (fun i d sl hd ⟨s', w2, w3, w4, w5, w6, w7, w8, w9, w10, ⟨h2, h3, h4, h5, h6, h7, h8, h9, h10⟩, es⟩ => by
        subst es
        obtain ⟨s'', d3, d4, d5, d6, d7, d8, d9, d10, e⟩ := law_turn (W := W) hW n (.scr ns) s' (.va d) w3 w4 w5 w6 w7 w8 w9 w10 h3 h4 h5 h6 h7 h8 h9 h10
        refine ⟨uS (.scr ns) s''.l (.va d) (.va d3) (.va d4) (.va d5) (.va d6) (.va d7) (.va d8) (.va d9) (.va d10), ?_, s'', .va d, .va d3, .va d4, .va d5, .va d6, .va d7, .va d8, .va d9, .va d10, ⟨.inr ⟨_, rfl⟩, .inr ⟨_, rfl⟩, .inr ⟨_, rfl⟩, .inr ⟨_, rfl⟩, .inr ⟨_, rfl⟩, .inr ⟨_, rfl⟩, .inr ⟨_, rfl⟩, .inr ⟨_, rfl⟩, .inr ⟨_, rfl⟩⟩, rfl⟩
        rw [← e]
        rcases h2 with rfl | ⟨_, rfl⟩ <;> rfl)
    exact ⟨sl', e'⟩
  rw [evF]
  simp [T, d_80, b_80, List.findIdx?, List.findIdx?.go, ioOf, d_50, e0, e5, flat_l]
end K13

namespace K13
open PySem L2 Pf Pd
section
variable {P : Program} {w : World} {K : PySem.W.Frag} {mg : Str → Option Value} {base : Heap} {ev : Ev} {n : Nat}
theorem lv0 (Z : Txt K mg ev) : Lv P w K mg base ev 0 := fun f d h => match f, h with
  | 0, _ => fn_zero (k := 1) Z.F_0 sc_0
  | 1, _ => fn_zero (k := 1) Z.F_1 sc_1
  | 2, _ => fn_zero (k := 1) Z.F_2 sc_2
  | 3, _ => fn_zero (k := 1) Z.F_3 sc_3
  | 4, _ => fn_zero (k := 1) Z.F_4 sc_4
  | 5, _ => fn_zero (k := 1) Z.F_5 sc_5
  | 6, _ => fn_zero (k := 1) Z.F_6 sc_6
  | 7, _ => fn_zero (k := 1) Z.F_7 sc_7
  | 8, _ => fn_zero (k := 1) Z.F_8 sc_8
  | 9, _ => fn_zero (k := 1) Z.F_9 sc_9
  | 10, _ => fn_zero (k := 1) Z.F_10 sc_10
  | 11, _ => fn_zero (k := 1) Z.F_11 sc_11
  | 12, _ => fn_zero (k := 1) Z.F_12 sc_12
  | 13, _ => fn_zero (k := 1) Z.F_13 sc_13
  | 14, _ => fn_zero (k := 1) Z.F_14 sc_14
  | 15, _ => fn_zero (k := 1) Z.F_15 sc_15
  | 16, _ => fn_zero (k := 1) Z.F_16 sc_16
  | 17, _ => fn_zero (k := 1) Z.F_17 sc_17
  | 18, _ => fn_zero (k := 1) Z.F_18 sc_18
  | 19, _ => fn_zero (k := 1) Z.F_19 sc_19
  | 20, _ => fn_zero (k := 1) Z.F_20 sc_20
  | 21, _ => fn_zero (k := 1) Z.F_21 sc_21
  | 22, _ => fn_zero (k := 1) Z.F_22 sc_22
  | 23, _ => fn_zero (k := 1) Z.F_23 sc_23
  | 24, _ => fn_zero (k := 1) Z.F_24 sc_24
  | 25, _ => fn_zero (k := 1) Z.F_25 sc_25
  | 30, _ => fn_zero (k := 1) Z.F_30 sc_30
  | 31, _ => fn_zero (k := 1) Z.F_31 sc_31
  | 32, _ => fn_zero (k := 1) Z.F_32 sc_32
  | 33, _ => fn_zero (k := 1) Z.F_33 sc_33
  | 50, _ => fn_zero (k := 1) Z.F_50 sc_50
  | 51, _ => fn_zero (k := 1) Z.F_51 sc_51
  | 52, _ => fn_zero (k := 1) Z.F_52 sc_52
  | 53, _ => fn_zero (k := 1) Z.F_53 sc_53
  | 54, _ => fn_zero (k := 1) Z.F_54 sc_54
  | 55, _ => fn_zero (k := 1) Z.F_55 sc_55
  | 56, _ => fn_zero (k := 1) Z.F_56 sc_56
  | 57, _ => fn_zero (k := 1) Z.F_57 sc_57
  | 58, _ => fn_zero (k := 1) Z.F_58 sc_58
  | 59, _ => fn_zero (k := 1) Z.F_59 sc_59
  | 60, _ => fn_zero (k := 1) Z.F_60 sc_60
  | 62, _ => fn_zero (k := 1) Z.F_62 sc_62
  | 63, _ => fn_zero (k := 1) Z.F_63 sc_63
  | 72, _ => fn_zero (k := 1) Z.F_72 sc_72
  | 80, _ => fn_zero (k := 1) Z.F_80 sc_80
  | 26, h => nomatch h
  | 27, h => nomatch h
  | 28, h => nomatch h
  | 29, h => nomatch h
  | 34, h => nomatch h
  | 35, h => nomatch h
  | 36, h => nomatch h
  | 37, h => nomatch h
  | 38, h => nomatch h
  | 39, h => nomatch h
  | 40, h => nomatch h
  | 41, h => nomatch h
  | 42, h => nomatch h
  | 43, h => nomatch h
  | 44, h => nomatch h
  | 45, h => nomatch h
  | 46, h => nomatch h
  | 47, h => nomatch h
  | 48, h => nomatch h
  | 49, h => nomatch h
  | 61, h => nomatch h
  | 64, h => nomatch h
  | 65, h => nomatch h
  | 66, h => nomatch h
  | 67, h => nomatch h
  | 68, h => nomatch h
  | 69, h => nomatch h
  | 70, h => nomatch h
  | 71, h => nomatch h
  | 73, h => nomatch h
  | 74, h => nomatch h
  | 75, h => nomatch h
  | 76, h => nomatch h
  | 77, h => nomatch h
  | 78, h => nomatch h
  | 79, h => nomatch h
  | _ + 81, h => nomatch h
theorem lvS (Z : Txt K mg ev) (L : Lv P w K mg base ev n) : Lv P w K mg base ev (n + 1) := fun f d h => match f, h with
  | 0, _ => ok_0 Z L
  | 1, _ => ok_1 Z L
  | 2, _ => ok_2 Z L
  | 3, _ => ok_3 Z L
  | 4, _ => ok_4 Z L
  | 5, _ => ok_5 Z L
  | 6, _ => ok_6 Z L
  | 7, _ => ok_7 Z L
  | 8, _ => ok_8 Z L
  | 9, _ => ok_9 Z L
  | 10, _ => ok_10 Z L
  | 11, _ => ok_11 Z L
  | 12, _ => ok_12 Z L
  | 13, _ => ok_13 Z L
  | 14, _ => ok_14 Z L
  | 15, _ => ok_15 Z L
  | 16, _ => ok_16 Z L
  | 17, _ => ok_17 Z L
  | 18, _ => ok_18 Z L
  | 19, _ => ok_19 Z L
  | 20, _ => ok_20 Z L
  | 21, _ => ok_21 Z L
  | 22, _ => ok_22 Z L
  | 23, _ => ok_23 Z L
  | 24, _ => ok_24 Z L
  | 25, _ => ok_25 Z L
  | 30, _ => ok_30 Z L
  | 31, _ => ok_31 Z L
  | 32, _ => ok_32 Z L
  | 33, _ => ok_33 Z L
  | 50, _ => ok_50 Z L
  | 51, _ => ok_51 Z L
  | 52, _ => ok_52 Z L
  | 53, _ => ok_53 Z L
  | 54, _ => ok_54 Z L
  | 55, _ => ok_55 Z L
  | 56, _ => ok_56 Z L
  | 57, _ => ok_57 Z L
  | 58, _ => ok_58 Z L
  | 59, _ => ok_59 Z L
  | 60, _ => ok_60 Z L
  | 62, _ => ok_62 Z L
  | 63, _ => ok_63 Z L
  | 72, _ => ok_72 Z L
  | 80, _ => ok_80 Z L
  | 26, h => nomatch h
  | 27, h => nomatch h
  | 28, h => nomatch h
  | 29, h => nomatch h
  | 34, h => nomatch h
  | 35, h => nomatch h
  | 36, h => nomatch h
  | 37, h => nomatch h
  | 38, h => nomatch h
  | 39, h => nomatch h
  | 40, h => nomatch h
  | 41, h => nomatch h
  | 42, h => nomatch h
  | 43, h => nomatch h
  | 44, h => nomatch h
  | 45, h => nomatch h
  | 46, h => nomatch h
  | 47, h => nomatch h
  | 48, h => nomatch h
  | 49, h => nomatch h
  | 61, h => nomatch h
  | 64, h => nomatch h
  | 65, h => nomatch h
  | 66, h => nomatch h
  | 67, h => nomatch h
  | 68, h => nomatch h
  | 69, h => nomatch h
  | 70, h => nomatch h
  | 71, h => nomatch h
  | 73, h => nomatch h
  | 74, h => nomatch h
  | 75, h => nomatch h
  | 76, h => nomatch h
  | 77, h => nomatch h
  | 78, h => nomatch h
  | 79, h => nomatch h
  | _ + 81, h => nomatch h
theorem lv (Z : Txt K mg ev) : ∀ n, Lv P w K mg base ev n
  | 0 => lv0 Z
  | n + 1 => lvS Z (lv Z n)
theorem ok_law (Z : Txt K mg ev) (hl : ∀ ns : List Int, ns.length ≤ 63 → evF T pr wf 40 80 [.va (.scr ns)] = .ok (.va (.bl true), none)) : FnOk P w K mg base CX0 82 (ev.fa 80) (ev.fd 80) ["_law_script"] (spLaw K) :=
  law_imp (G := gx P w K ev) (lv (P := P) (w := w) (base := base) Z 40 80 _ rfl) rfl hl
end
theorem all_mk {K : PySem.W.Frag} {h : Heap} {mg : Str → Option Value} {fa ca0 f0 f1 f2 f3 f4 f5 f6 f7 f8 f9 f10 f11 f12 f13 f14 f15 f16 f17 f18 f19 f20 f21 f22 f23 f24 f25 f30 f31 f32 f33 f50 f51 f52 f53 f54 f55 f56 f57 f58 f59 f60 f62 f63 f72 f80 : Addr} (X : K.In h) (G : h.Ns mainGlobals mg) (hfa : mg "law" = some (.ref fa))
    {od0 an0 od1 an1 od2 an2 od3 an3 od4 an4 od5 an5 od6 an6 od7 an7 od8 an8 od9 an9 od10 an10 od11 an11 od12 an12 od13 an13 od14 an14 od15 an15 od16 an16 od17 an17 od18 an18 od19 an19 od20 an20 od21 an21 od22 an22 od23 an23 od24 an24 od25 an25 od30 an30 od31 an31 od32 an32 od33 an33 od50 an50 od51 an51 od52 an52 od53 an53 od54 an54 od55 an55 od56 an56 od57 an57 od58 an58 od59 an59 od60 an60 od62 an62 od63 an63 od72 an72 od80 an80 : Option Addr} {sl0 sl1 sl2 sl3 sl4 sl5 sl6 sl7 sl8 sl9 sl10 sl11 sl12 sl13 sl14 sl15 sl16 sl17 sl18 sl19 sl20 sl21 sl22 sl23 sl24 sl25 sl30 sl31 sl32 sl33 sl50 sl51 sl52 sl53 sl54 sl55 sl56 sl57 sl58 sl59 sl60 sl62 sl63 sl72 sl80 : Array (Option Value)} {oc0 kV0 dc0 pm0 cd0 ct0 oc1 kV1 dc1 pm1 cd1 ct1 oc2 kV2 dc2 pm2 cd2 ct2 oc3 kV3 dc3 pm3 cd3 ct3 oc4 kV4 dc4 pm4 cd4 ct4 oc5 kV5 dc5 pm5 cd5 ct5 oc6 kV6 dc6 pm6 cd6 ct6 oc7 kV7 dc7 pm7 cd7 ct7 oc8 kV8 dc8 pm8 cd8 ct8 oc9 kV9 dc9 pm9 cd9 ct9 oc10 kV10 dc10 pm10 cd10 ct10 oc11 kV11 dc11 pm11 cd11 ct11 oc12 kV12 dc12 pm12 cd12 ct12 oc13 kV13 dc13 pm13 cd13 ct13 oc14 kV14 dc14 pm14 cd14 ct14 oc15 kV15 dc15 pm15 cd15 ct15 oc16 kV16 dc16 pm16 cd16 ct16 oc17 kV17 dc17 pm17 cd17 ct17 oc18 kV18 dc18 pm18 cd18 ct18 oc19 kV19 dc19 pm19 cd19 ct19 oc20 kV20 dc20 pm20 cd20 ct20 oc21 kV21 dc21 pm21 cd21 ct21 oc22 kV22 dc22 pm22 cd22 ct22 oc23 kV23 dc23 pm23 cd23 ct23 oc24 kV24 dc24 pm24 cd24 ct24 oc25 kV25 dc25 pm25 cd25 ct25 oc30 kV30 dc30 pm30 cd30 ct30 oc31 kV31 dc31 pm31 cd31 ct31 oc32 kV32 dc32 pm32 cd32 ct32 oc33 kV33 dc33 pm33 cd33 ct33 oc50 kV50 dc50 pm50 cd50 ct50 oc51 kV51 dc51 pm51 cd51 ct51 oc52 kV52 dc52 pm52 cd52 ct52 oc53 kV53 dc53 pm53 cd53 ct53 oc54 kV54 dc54 pm54 cd54 ct54 oc55 kV55 dc55 pm55 cd55 ct55 oc56 kV56 dc56 pm56 cd56 ct56 oc57 kV57 dc57 pm57 cd57 ct57 oc58 kV58 dc58 pm58 cd58 ct58 oc59 kV59 dc59 pm59 cd59 ct59 oc60 kV60 dc60 pm60 cd60 ct60 oc62 kV62 dc62 pm62 cd62 ct62 oc63 kV63 dc63 pm63 cd63 ct63 oc72 kV72 dc72 pm72 cd72 ct72 oc80 kV80 dc80 pm80 cd80 ct80 : Value}
    {t_LEAST_TOP t_MOST_CODE t_MOST_TOP t_MOST_TURNS : Tok}
    (aC0 : PySem.W.nsIn K mainGlobals "Plan" = some (some (.ref ca0)))
    (pg0 : PySem.W.plainGet K ca0 Str.empty = true)
    (hd0 : PySem.W.hasDictIn K ca0 = true)
    (po0 : PySem.W.plainOver K ca0 = true)
    (sa0 : PySem.W.findIn K (.ref ca0) "__setattr__" = some (some (.builtin "object.__setattr__")))
    (mk0 : PySem.W.makesIn K ca0 = true)
    (kc0 : PySem.W.keepIn K (.ref ca0) = true)
    (a0 : PySem.W.nsIn K mainGlobals "row_number" = some (some (.ref f0)))
    (l0 : K.lookup f0 = some ⟨oc0, od0, .func (PySem.W.fnOf "row_number" "row_number" (defArgs s_0) (defBody s_0) (defScope s_0) .none kV0 dc0 pm0 an0 cd0 ct0), sl0⟩)
    (c0 : PySem.W.codeIn K cd0 "row_number" = true)
    (k0 : PySem.W.keepIn K (.ref f0) = true)
    (a1 : PySem.W.nsIn K mainGlobals "row_at" = some (some (.ref f1)))
    (l1 : K.lookup f1 = some ⟨oc1, od1, .func (PySem.W.fnOf "row_at" "row_at" (defArgs s_1) (defBody s_1) (defScope s_1) .none kV1 dc1 pm1 an1 cd1 ct1), sl1⟩)
    (c1 : PySem.W.codeIn K cd1 "row_at" = true)
    (k1 : PySem.W.keepIn K (.ref f1) = true)
    (a2 : PySem.W.nsIn K mainGlobals "split_rows" = some (some (.ref f2)))
    (l2 : K.lookup f2 = some ⟨oc2, od2, .func (PySem.W.fnOf "split_rows" "split_rows" (defArgs s_2) (defBody s_2) (defScope s_2) .none kV2 dc2 pm2 an2 cd2 ct2), sl2⟩)
    (c2 : PySem.W.codeIn K cd2 "split_rows" = true)
    (k2 : PySem.W.keepIn K (.ref f2) = true)
    (a3 : PySem.W.nsIn K mainGlobals "grouped" = some (some (.ref f3)))
    (l3 : K.lookup f3 = some ⟨oc3, od3, .func (PySem.W.fnOf "grouped" "grouped" (defArgs s_3) (defBody s_3) (defScope s_3) .none kV3 dc3 pm3 an3 cd3 ct3), sl3⟩)
    (c3 : PySem.W.codeIn K cd3 "grouped" = true)
    (k3 : PySem.W.keepIn K (.ref f3) = true)
    (a4 : PySem.W.nsIn K mainGlobals "counted" = some (some (.ref f4)))
    (l4 : K.lookup f4 = some ⟨oc4, od4, .func (PySem.W.fnOf "counted" "counted" (defArgs s_4) (defBody s_4) (defScope s_4) .none kV4 dc4 pm4 an4 cd4 ct4), sl4⟩)
    (c4 : PySem.W.codeIn K cd4 "counted" = true)
    (k4 : PySem.W.keepIn K (.ref f4) = true)
    (a5 : PySem.W.nsIn K mainGlobals "coded" = some (some (.ref f5)))
    (l5 : K.lookup f5 = some ⟨oc5, od5, .func (PySem.W.fnOf "coded" "coded" (defArgs s_5) (defBody s_5) (defScope s_5) .none kV5 dc5 pm5 an5 cd5 ct5), sl5⟩)
    (c5 : PySem.W.codeIn K cd5 "coded" = true)
    (k5 : PySem.W.keepIn K (.ref f5) = true)
    (a6 : PySem.W.nsIn K mainGlobals "first_state" = some (some (.ref f6)))
    (l6 : K.lookup f6 = some ⟨oc6, od6, .func (PySem.W.fnOf "first_state" "first_state" (defArgs s_6) (defBody s_6) (defScope s_6) .none kV6 dc6 pm6 an6 cd6 ct6), sl6⟩)
    (c6 : PySem.W.codeIn K cd6 "first_state" = true)
    (k6 : PySem.W.keepIn K (.ref f6) = true)
    (a7 : PySem.W.nsIn K mainGlobals "code_step" = some (some (.ref f7)))
    (l7 : K.lookup f7 = some ⟨oc7, od7, .func (PySem.W.fnOf "code_step" "code_step" (defArgs s_7) (defBody s_7) (defScope s_7) .none kV7 dc7 pm7 an7 cd7 ct7), sl7⟩)
    (c7 : PySem.W.codeIn K cd7 "code_step" = true)
    (k7 : PySem.W.keepIn K (.ref f7) = true)
    (a8 : PySem.W.nsIn K mainGlobals "count_step" = some (some (.ref f8)))
    (l8 : K.lookup f8 = some ⟨oc8, od8, .func (PySem.W.fnOf "count_step" "count_step" (defArgs s_8) (defBody s_8) (defScope s_8) .none kV8 dc8 pm8 an8 cd8 ct8), sl8⟩)
    (c8 : PySem.W.codeIn K cd8 "count_step" = true)
    (k8 : PySem.W.keepIn K (.ref f8) = true)
    (a9 : PySem.W.nsIn K mainGlobals "step" = some (some (.ref f9)))
    (l9 : K.lookup f9 = some ⟨oc9, od9, .func (PySem.W.fnOf "step" "step" (defArgs s_9) (defBody s_9) (defScope s_9) .none kV9 dc9 pm9 an9 cd9 ct9), sl9⟩)
    (c9 : PySem.W.codeIn K cd9 "step" = true)
    (k9 : PySem.W.keepIn K (.ref f9) = true)
    (a10 : PySem.W.nsIn K mainGlobals "last" = some (some (.ref f10)))
    (l10 : K.lookup f10 = some ⟨oc10, od10, .func (PySem.W.fnOf "last" "last" (defArgs s_10) (defBody s_10) (defScope s_10) .none kV10 dc10 pm10 an10 cd10 ct10), sl10⟩)
    (c10 : PySem.W.codeIn K cd10 "last" = true)
    (k10 : PySem.W.keepIn K (.ref f10) = true)
    (a11 : PySem.W.nsIn K mainGlobals "core" = some (some (.ref f11)))
    (l11 : K.lookup f11 = some ⟨oc11, od11, .func (PySem.W.fnOf "core" "core" (defArgs s_11) (defBody s_11) (defScope s_11) .none kV11 dc11 pm11 an11 cd11 ct11), sl11⟩)
    (c11 : PySem.W.codeIn K cd11 "core" = true)
    (k11 : PySem.W.keepIn K (.ref f11) = true)
    (a12 : PySem.W.nsIn K mainGlobals "turns" = some (some (.ref f12)))
    (l12 : K.lookup f12 = some ⟨oc12, od12, .func (PySem.W.fnOf "turns" "turns" (defArgs s_12) (defBody s_12) (defScope s_12) .none kV12 dc12 pm12 an12 cd12 ct12), sl12⟩)
    (c12 : PySem.W.codeIn K cd12 "turns" = true)
    (k12 : PySem.W.keepIn K (.ref f12) = true)
    (a13 : PySem.W.nsIn K mainGlobals "is_plain" = some (some (.ref f13)))
    (l13 : K.lookup f13 = some ⟨oc13, od13, .func (PySem.W.fnOf "is_plain" "is_plain" (defArgs s_13) (defBody s_13) (defScope s_13) .none kV13 dc13 pm13 an13 cd13 ct13), sl13⟩)
    (c13 : PySem.W.codeIn K cd13 "is_plain" = true)
    (k13 : PySem.W.keepIn K (.ref f13) = true)
    (a14 : PySem.W.nsIn K mainGlobals "are_plain" = some (some (.ref f14)))
    (l14 : K.lookup f14 = some ⟨oc14, od14, .func (PySem.W.fnOf "are_plain" "are_plain" (defArgs s_14) (defBody s_14) (defScope s_14) .none kV14 dc14 pm14 an14 cd14 ct14), sl14⟩)
    (c14 : PySem.W.codeIn K cd14 "are_plain" = true)
    (k14 : PySem.W.keepIn K (.ref f14) = true)
    (a15 : PySem.W.nsIn K mainGlobals "begins" = some (some (.ref f15)))
    (l15 : K.lookup f15 = some ⟨oc15, od15, .func (PySem.W.fnOf "begins" "begins" (defArgs s_15) (defBody s_15) (defScope s_15) .none kV15 dc15 pm15 an15 cd15 ct15), sl15⟩)
    (c15 : PySem.W.codeIn K cd15 "begins" = true)
    (k15 : PySem.W.keepIn K (.ref f15) = true)
    (a16 : PySem.W.nsIn K mainGlobals "are_codes" = some (some (.ref f16)))
    (l16 : K.lookup f16 = some ⟨oc16, od16, .func (PySem.W.fnOf "are_codes" "are_codes" (defArgs s_16) (defBody s_16) (defScope s_16) .none kV16 dc16 pm16 an16 cd16 ct16), sl16⟩)
    (c16 : PySem.W.codeIn K cd16 "are_codes" = true)
    (k16 : PySem.W.keepIn K (.ref f16) = true)
    (a17 : PySem.W.nsIn K mainGlobals "are_pairs" = some (some (.ref f17)))
    (l17 : K.lookup f17 = some ⟨oc17, od17, .func (PySem.W.fnOf "are_pairs" "are_pairs" (defArgs s_17) (defBody s_17) (defScope s_17) .none kV17 dc17 pm17 an17 cd17 ct17), sl17⟩)
    (c17 : PySem.W.codeIn K cd17 "are_pairs" = true)
    (k17 : PySem.W.keepIn K (.ref f17) = true)
    (a18 : PySem.W.nsIn K mainGlobals "fault_of" = some (some (.ref f18)))
    (l18 : K.lookup f18 = some ⟨oc18, od18, .func (PySem.W.fnOf "fault_of" "fault_of" (defArgs s_18) (defBody s_18) (defScope s_18) .none kV18 dc18 pm18 an18 cd18 ct18), sl18⟩)
    (c18 : PySem.W.codeIn K cd18 "fault_of" = true)
    (k18 : PySem.W.keepIn K (.ref f18) = true)
    (a19 : PySem.W.nsIn K mainGlobals "need_way" = some (some (.ref f19)))
    (l19 : K.lookup f19 = some ⟨oc19, od19, .func (PySem.W.fnOf "need_way" "need_way" (defArgs s_19) (defBody s_19) (defScope s_19) .none kV19 dc19 pm19 an19 cd19 ct19), sl19⟩)
    (c19 : PySem.W.codeIn K cd19 "need_way" = true)
    (k19 : PySem.W.keepIn K (.ref f19) = true)
    (a20 : PySem.W.nsIn K mainGlobals "escaped_codes" = some (some (.ref f20)))
    (l20 : K.lookup f20 = some ⟨oc20, od20, .func (PySem.W.fnOf "escaped_codes" "escaped_codes" (defArgs s_20) (defBody s_20) (defScope s_20) .none kV20 dc20 pm20 an20 cd20 ct20), sl20⟩)
    (c20 : PySem.W.codeIn K cd20 "escaped_codes" = true)
    (k20 : PySem.W.keepIn K (.ref f20) = true)
    (a21 : PySem.W.findIn K (.ref ca0) "__init__" = some (some (.ref f21)))
    (i21 : PySem.W.isFn K (.ref f21) = true)
    (l21 : K.lookup f21 = some ⟨oc21, od21, .func (PySem.W.fnOf "__init__" "Plan.__init__" (defArgs s_21) (defBody s_21) (defScope s_21) .none kV21 dc21 pm21 an21 cd21 ct21), sl21⟩)
    (c21 : PySem.W.codeIn K cd21 "Plan.__init__" = true)
    (k21 : PySem.W.keepIn K (.ref f21) = true)
    (a22 : PySem.W.findIn K (.ref ca0) "told" = some (some (.ref f22)))
    (i22 : PySem.W.isFn K (.ref f22) = true)
    (l22 : K.lookup f22 = some ⟨oc22, od22, .func (PySem.W.fnOf "told" "Plan.told" (defArgs s_22) (defBody s_22) (defScope s_22) .none kV22 dc22 pm22 an22 cd22 ct22), sl22⟩)
    (c22 : PySem.W.codeIn K cd22 "Plan.told" = true)
    (k22 : PySem.W.keepIn K (.ref f22) = true)
    (a23 : PySem.W.findIn K (.ref ca0) "plain" = some (some (.ref f23)))
    (i23 : PySem.W.isFn K (.ref f23) = true)
    (l23 : K.lookup f23 = some ⟨oc23, od23, .func (PySem.W.fnOf "plain" "Plan.plain" (defArgs s_23) (defBody s_23) (defScope s_23) .none kV23 dc23 pm23 an23 cd23 ct23), sl23⟩)
    (c23 : PySem.W.codeIn K cd23 "Plan.plain" = true)
    (k23 : PySem.W.keepIn K (.ref f23) = true)
    (a24 : PySem.W.findIn K (.ref ca0) "exchanged" = some (some (.ref f24)))
    (i24 : PySem.W.isFn K (.ref f24) = true)
    (l24 : K.lookup f24 = some ⟨oc24, od24, .func (PySem.W.fnOf "exchanged" "Plan.exchanged" (defArgs s_24) (defBody s_24) (defScope s_24) .none kV24 dc24 pm24 an24 cd24 ct24), sl24⟩)
    (c24 : PySem.W.codeIn K cd24 "Plan.exchanged" = true)
    (k24 : PySem.W.keepIn K (.ref f24) = true)
    (a25 : PySem.W.findIn K (.ref ca0) "back" = some (some (.ref f25)))
    (i25 : PySem.W.isFn K (.ref f25) = true)
    (l25 : K.lookup f25 = some ⟨oc25, od25, .func (PySem.W.fnOf "back" "Plan.back" (defArgs s_25) (defBody s_25) (defScope s_25) .none kV25 dc25 pm25 an25 cd25 ct25), sl25⟩)
    (c25 : PySem.W.codeIn K cd25 "Plan.back" = true)
    (k25 : PySem.W.keepIn K (.ref f25) = true)
    (a30 : PySem.W.nsIn K mainGlobals "worst" = some (some (.ref f30)))
    (l30 : K.lookup f30 = some ⟨oc30, od30, .func (PySem.W.fnOf "worst" "worst" (defArgs s_30) (defBody s_30) (defScope s_30) .none kV30 dc30 pm30 an30 cd30 ct30), sl30⟩)
    (c30 : PySem.W.codeIn K cd30 "worst" = true)
    (k30 : PySem.W.keepIn K (.ref f30) = true)
    (a31 : PySem.W.nsIn K mainGlobals "gone_on" = some (some (.ref f31)))
    (l31 : K.lookup f31 = some ⟨oc31, od31, .func (PySem.W.fnOf "gone_on" "gone_on" (defArgs s_31) (defBody s_31) (defScope s_31) .none kV31 dc31 pm31 an31 cd31 ct31), sl31⟩)
    (c31 : PySem.W.codeIn K cd31 "gone_on" = true)
    (k31 : PySem.W.keepIn K (.ref f31) = true)
    (a32 : PySem.W.nsIn K mainGlobals "frames_of" = some (some (.ref f32)))
    (l32 : K.lookup f32 = some ⟨oc32, od32, .func (PySem.W.fnOf "frames_of" "frames_of" (defArgs s_32) (defBody s_32) (defScope s_32) .none kV32 dc32 pm32 an32 cd32 ct32), sl32⟩)
    (c32 : PySem.W.codeIn K cd32 "frames_of" = true)
    (k32 : PySem.W.keepIn K (.ref f32) = true)
    (a33 : PySem.W.nsIn K mainGlobals "power" = some (some (.ref f33)))
    (l33 : K.lookup f33 = some ⟨oc33, od33, .func (PySem.W.fnOf "power" "power" (defArgs s_33) (defBody s_33) (defScope s_33) .none kV33 dc33 pm33 an33 cd33 ct33), sl33⟩)
    (c33 : PySem.W.codeIn K cd33 "power" = true)
    (k33 : PySem.W.keepIn K (.ref f33) = true)
    (a50 : PySem.W.nsIn K mainGlobals "_law_dice" = some (some (.ref f50)))
    (l50 : K.lookup f50 = some ⟨oc50, od50, .func (PySem.W.fnOf "_law_dice" "_law_dice" (defArgs s_50) (defBody s_50) (defScope s_50) .none kV50 dc50 pm50 an50 cd50 ct50), sl50⟩)
    (c50 : PySem.W.codeIn K cd50 "_law_dice" = true)
    (k50 : PySem.W.keepIn K (.ref f50) = true)
    (a51 : PySem.W.nsIn K mainGlobals "_law_off" = some (some (.ref f51)))
    (l51 : K.lookup f51 = some ⟨oc51, od51, .func (PySem.W.fnOf "_law_off" "_law_off" (defArgs s_51) (defBody s_51) (defScope s_51) .none kV51 dc51 pm51 an51 cd51 ct51), sl51⟩)
    (c51 : PySem.W.codeIn K cd51 "_law_off" = true)
    (k51 : PySem.W.keepIn K (.ref f51) = true)
    (a52 : PySem.W.nsIn K mainGlobals "_law_alike" = some (some (.ref f52)))
    (l52 : K.lookup f52 = some ⟨oc52, od52, .func (PySem.W.fnOf "_law_alike" "_law_alike" (defArgs s_52) (defBody s_52) (defScope s_52) .none kV52 dc52 pm52 an52 cd52 ct52), sl52⟩)
    (c52 : PySem.W.codeIn K cd52 "_law_alike" = true)
    (k52 : PySem.W.keepIn K (.ref f52) = true)
    (a53 : PySem.W.nsIn K mainGlobals "_law_mixed" = some (some (.ref f53)))
    (l53 : K.lookup f53 = some ⟨oc53, od53, .func (PySem.W.fnOf "_law_mixed" "_law_mixed" (defArgs s_53) (defBody s_53) (defScope s_53) .none kV53 dc53 pm53 an53 cd53 ct53), sl53⟩)
    (c53 : PySem.W.codeIn K cd53 "_law_mixed" = true)
    (k53 : PySem.W.keepIn K (.ref f53) = true)
    (a54 : PySem.W.nsIn K mainGlobals "_law_plain" = some (some (.ref f54)))
    (l54 : K.lookup f54 = some ⟨oc54, od54, .func (PySem.W.fnOf "_law_plain" "_law_plain" (defArgs s_54) (defBody s_54) (defScope s_54) .none kV54 dc54 pm54 an54 cd54 ct54), sl54⟩)
    (c54 : PySem.W.codeIn K cd54 "_law_plain" = true)
    (k54 : PySem.W.keepIn K (.ref f54) = true)
    (a55 : PySem.W.nsIn K mainGlobals "_law_codes" = some (some (.ref f55)))
    (l55 : K.lookup f55 = some ⟨oc55, od55, .func (PySem.W.fnOf "_law_codes" "_law_codes" (defArgs s_55) (defBody s_55) (defScope s_55) .none kV55 dc55 pm55 an55 cd55 ct55), sl55⟩)
    (c55 : PySem.W.codeIn K cd55 "_law_codes" = true)
    (k55 : PySem.W.keepIn K (.ref f55) = true)
    (a56 : PySem.W.nsIn K mainGlobals "_law_escapes" = some (some (.ref f56)))
    (l56 : K.lookup f56 = some ⟨oc56, od56, .func (PySem.W.fnOf "_law_escapes" "_law_escapes" (defArgs s_56) (defBody s_56) (defScope s_56) .none kV56 dc56 pm56 an56 cd56 ct56), sl56⟩)
    (c56 : PySem.W.codeIn K cd56 "_law_escapes" = true)
    (k56 : PySem.W.keepIn K (.ref f56) = true)
    (a57 : PySem.W.nsIn K mainGlobals "_law_base" = some (some (.ref f57)))
    (l57 : K.lookup f57 = some ⟨oc57, od57, .func (PySem.W.fnOf "_law_base" "_law_base" (defArgs s_57) (defBody s_57) (defScope s_57) .none kV57 dc57 pm57 an57 cd57 ct57), sl57⟩)
    (c57 : PySem.W.codeIn K cd57 "_law_base" = true)
    (k57 : PySem.W.keepIn K (.ref f57) = true)
    (a58 : PySem.W.nsIn K mainGlobals "_law_turned" = some (some (.ref f58)))
    (l58 : K.lookup f58 = some ⟨oc58, od58, .func (PySem.W.fnOf "_law_turned" "_law_turned" (defArgs s_58) (defBody s_58) (defScope s_58) .none kV58 dc58 pm58 an58 cd58 ct58), sl58⟩)
    (c58 : PySem.W.codeIn K cd58 "_law_turned" = true)
    (k58 : PySem.W.keepIn K (.ref f58) = true)
    (a59 : PySem.W.nsIn K mainGlobals "_law_core" = some (some (.ref f59)))
    (l59 : K.lookup f59 = some ⟨oc59, od59, .func (PySem.W.fnOf "_law_core" "_law_core" (defArgs s_59) (defBody s_59) (defScope s_59) .none kV59 dc59 pm59 an59 cd59 ct59), sl59⟩)
    (c59 : PySem.W.codeIn K cd59 "_law_core" = true)
    (k59 : PySem.W.keepIn K (.ref f59) = true)
    (a60 : PySem.W.nsIn K mainGlobals "_law_top" = some (some (.ref f60)))
    (l60 : K.lookup f60 = some ⟨oc60, od60, .func (PySem.W.fnOf "_law_top" "_law_top" (defArgs s_60) (defBody s_60) (defScope s_60) .none kV60 dc60 pm60 an60 cd60 ct60), sl60⟩)
    (c60 : PySem.W.codeIn K cd60 "_law_top" = true)
    (k60 : PySem.W.keepIn K (.ref f60) = true)
    (a62 : PySem.W.nsIn K mainGlobals "_law_size" = some (some (.ref f62)))
    (l62 : K.lookup f62 = some ⟨oc62, od62, .func (PySem.W.fnOf "_law_size" "_law_size" (defArgs s_62) (defBody s_62) (defScope s_62) .none kV62 dc62 pm62 an62 cd62 ct62), sl62⟩)
    (c62 : PySem.W.codeIn K cd62 "_law_size" = true)
    (k62 : PySem.W.keepIn K (.ref f62) = true)
    (a63 : PySem.W.nsIn K mainGlobals "_law_way" = some (some (.ref f63)))
    (l63 : K.lookup f63 = some ⟨oc63, od63, .func (PySem.W.fnOf "_law_way" "_law_way" (defArgs s_63) (defBody s_63) (defScope s_63) .none kV63 dc63 pm63 an63 cd63 ct63), sl63⟩)
    (c63 : PySem.W.codeIn K cd63 "_law_way" = true)
    (k63 : PySem.W.keepIn K (.ref f63) = true)
    (a72 : PySem.W.nsIn K mainGlobals "_law_power" = some (some (.ref f72)))
    (l72 : K.lookup f72 = some ⟨oc72, od72, .func (PySem.W.fnOf "_law_power" "_law_power" (defArgs s_72) (defBody s_72) (defScope s_72) .none kV72 dc72 pm72 an72 cd72 ct72), sl72⟩)
    (c72 : PySem.W.codeIn K cd72 "_law_power" = true)
    (k72 : PySem.W.keepIn K (.ref f72) = true)
    (a80 : PySem.W.nsIn K mainGlobals "law" = some (some (.ref f80)))
    (l80 : K.lookup f80 = some ⟨oc80, od80, .func (PySem.W.fnOf "law" "law" (defArgs s_80) (defBody s_80) (defScope s_80) .none kV80 dc80 pm80 an80 cd80 ct80), sl80⟩)
    (c80 : PySem.W.codeIn K cd80 "law" = true)
    (k80 : PySem.W.keepIn K (.ref f80) = true)
    (na0_codes : PySem.W.findIn K (.ref ca0) "codes" = some none)
    (na0_end : PySem.W.findIn K (.ref ca0) "end" = some none)
    (na0_kind : PySem.W.findIn K (.ref ca0) "kind" = some none)
    (na0_limit : PySem.W.findIn K (.ref ca0) "limit" = some none)
    (na0_signs : PySem.W.findIn K (.ref ca0) "signs" = some none)
    (na0_top : PySem.W.findIn K (.ref ca0) "top" = some none)
    (n_abs : PySem.W.nsIn K mainGlobals "abs" = some none)
    (n_all : PySem.W.nsIn K mainGlobals "all" = some none)
    (n_bool : PySem.W.nsIn K mainGlobals "bool" = some none)
    (n_enumerate : PySem.W.nsIn K mainGlobals "enumerate" = some none)
    (n_int : PySem.W.nsIn K mainGlobals "int" = some none)
    (n_isinstance : PySem.W.nsIn K mainGlobals "isinstance" = some none)
    (n_len : PySem.W.nsIn K mainGlobals "len" = some none)
    (n_list : PySem.W.nsIn K mainGlobals "list" = some none)
    (n_max : PySem.W.nsIn K mainGlobals "max" = some none)
    (n_range : PySem.W.nsIn K mainGlobals "range" = some none)
    (n_reversed : PySem.W.nsIn K mainGlobals "reversed" = some none)
    (n_set : PySem.W.nsIn K mainGlobals "set" = some none)
    (n_sorted : PySem.W.nsIn K mainGlobals "sorted" = some none)
    (n_str : PySem.W.nsIn K mainGlobals "str" = some none)
    (n_sum : PySem.W.nsIn K mainGlobals "sum" = some none)
    (n_tuple : PySem.W.nsIn K mainGlobals "tuple" = some none)
    (c_LEAST_TOP : PySem.W.nsIn K mainGlobals "LEAST_TOP" = some (some (.int 3 t_LEAST_TOP)))
    (c_MOST_CODE : PySem.W.nsIn K mainGlobals "MOST_CODE" = some (some (.int 4 t_MOST_CODE)))
    (c_MOST_TOP : PySem.W.nsIn K mainGlobals "MOST_TOP" = some (some (.int 16 t_MOST_TOP)))
    (c_MOST_TURNS : PySem.W.nsIn K mainGlobals "MOST_TURNS" = some (some (.int 3 t_MOST_TURNS)))
    : ∃ ev : Ev, ev.fa 80 = fa ∧ Txt K mg ev ∧ ∀ (s : Shared) (v : Value), BindsTo s (ev.fd 80) ⟨[v], []⟩ [("_law_script", v)] := by
  have e := hfa.symm.trans (PySem.W.mg_of X G a80)
  have e : f80 = fa := by
    injection e with e
    injection e with e
    exact e.symm
  subst e
  have F0 := fun_mk (st := s_0) l0 c0 k0
  have b0 := F0.binds (ps := ["row", "many"]) fun _ _ _ _ _ _ us hl => match us, hl with | [_, _], _ => rfl
  have F1 := fun_mk (st := s_1) l1 c1 k1
  have b1 := F1.binds (ps := ["number", "many"]) fun _ _ _ _ _ _ us hl => match us, hl with | [_, _], _ => rfl
  have F2 := fun_mk (st := s_2) l2 c2 k2
  have b2 := F2.binds (ps := ["row", "end"]) fun _ _ _ _ _ _ us hl => match us, hl with | [_, _], _ => rfl
  have F3 := fun_mk (st := s_3) l3 c3 k3
  have b3 := F3.binds (ps := ["plan", "row", "is_last"]) fun _ _ _ _ _ _ us hl => match us, hl with | [_, _, _], _ => rfl
  have F4 := fun_mk (st := s_4) l4 c4 k4
  have b4 := F4.binds (ps := ["plan", "row"]) fun _ _ _ _ _ _ us hl => match us, hl with | [_, _], _ => rfl
  have F5 := fun_mk (st := s_5) l5 c5 k5
  have b5 := F5.binds (ps := ["plan", "body"]) fun _ _ _ _ _ _ us hl => match us, hl with | [_, _], _ => rfl
  have F6 := fun_mk (st := s_6) l6 c6 k6
  have b6 := F6.binds (ps := ["plan"]) fun _ _ _ _ _ _ us hl => match us, hl with | [_], _ => rfl
  have F7 := fun_mk (st := s_7) l7 c7 k7
  have b7 := F7.binds (ps := ["plan", "state", "sign"]) fun _ _ _ _ _ _ us hl => match us, hl with | [_, _, _], _ => rfl
  have F8 := fun_mk (st := s_8) l8 c8 k8
  have b8 := F8.binds (ps := ["plan", "state", "sign"]) fun _ _ _ _ _ _ us hl => match us, hl with | [_, _, _], _ => rfl
  have F9 := fun_mk (st := s_9) l9 c9 k9
  have b9 := F9.binds (ps := ["plan", "state", "sign"]) fun _ _ _ _ _ _ us hl => match us, hl with | [_, _, _], _ => rfl
  have F10 := fun_mk (st := s_10) l10 c10 k10
  have b10 := F10.binds (ps := ["plan", "state"]) fun _ _ _ _ _ _ us hl => match us, hl with | [_, _], _ => rfl
  have F11 := fun_mk (st := s_11) l11 c11 k11
  have b11 := F11.binds (ps := ["way"]) fun _ _ _ _ _ _ us hl => match us, hl with | [_], _ => rfl
  have F12 := fun_mk (st := s_12) l12 c12 k12
  have b12 := F12.binds (ps := ["way"]) fun _ _ _ _ _ _ us hl => match us, hl with | [_], _ => rfl
  have F13 := fun_mk (st := s_13) l13 c13 k13
  have b13 := F13.binds (ps := ["sign", "top", "end"]) fun _ _ _ _ _ _ us hl => match us, hl with | [_, _, _], _ => rfl
  have F14 := fun_mk (st := s_14) l14 c14 k14
  have b14 := F14.binds (ps := ["signs", "top", "end"]) fun _ _ _ _ _ _ us hl => match us, hl with | [_, _, _], _ => rfl
  have F15 := fun_mk (st := s_15) l15 c15 k15
  have b15 := F15.binds (ps := ["one", "other"]) fun _ _ _ _ _ _ us hl => match us, hl with | [_, _], _ => rfl
  have F16 := fun_mk (st := s_16) l16 c16 k16
  have b16 := F16.binds (ps := ["codes", "top", "end"]) fun _ _ _ _ _ _ us hl => match us, hl with | [_, _, _], _ => rfl
  have F17 := fun_mk (st := s_17) l17 c17 k17
  have b17 := F17.binds (ps := ["pairs", "top", "end", "mark"]) fun _ _ _ _ _ _ us hl => match us, hl with | [_, _, _, _], _ => rfl
  have F18 := fun_mk (st := s_18) l18 c18 k18
  have b18 := F18.binds (ps := ["way"]) fun _ _ _ _ _ _ us hl => match us, hl with | [_], _ => rfl
  have F19 := fun_mk (st := s_19) l19 c19 k19
  have b19 := F19.binds (ps := ["way"]) fun _ _ _ _ _ _ us hl => match us, hl with | [_], _ => rfl
  have F20 := fun_mk (st := s_20) l20 c20 k20
  have b20 := F20.binds (ps := ["way"]) fun _ _ _ _ _ _ us hl => match us, hl with | [_], _ => rfl
  have F21 := fun_mk (st := s_21) l21 c21 k21
  have b21 := F21.binds (ps := ["self", "way"]) fun _ _ _ _ _ _ us hl => match us, hl with | [_, _], _ => rfl
  have F22 := fun_mk (st := s_22) l22 c22 k22
  have b22 := F22.binds (ps := ["self"]) fun _ _ _ _ _ _ us hl => match us, hl with | [_], _ => rfl
  have F23 := fun_mk (st := s_23) l23 c23 k23
  have b23 := F23.binds (ps := ["self"]) fun _ _ _ _ _ _ us hl => match us, hl with | [_], _ => rfl
  have F24 := fun_mk (st := s_24) l24 c24 k24
  have b24 := F24.binds (ps := ["self", "row"]) fun _ _ _ _ _ _ us hl => match us, hl with | [_, _], _ => rfl
  have F25 := fun_mk (st := s_25) l25 c25 k25
  have b25 := F25.binds (ps := ["self", "row"]) fun _ _ _ _ _ _ us hl => match us, hl with | [_, _], _ => rfl
  have F30 := fun_mk (st := s_30) l30 c30 k30
  have b30 := F30.binds (ps := ["way", "many"]) fun _ _ _ _ _ _ us hl => match us, hl with | [_, _], _ => rfl
  have F31 := fun_mk (st := s_31) l31 c31 k31
  have b31 := F31.binds (ps := ["plan", "ways"]) fun _ _ _ _ _ _ us hl => match us, hl with | [_, _], _ => rfl
  have F32 := fun_mk (st := s_32) l32 c32 k32
  have b32 := F32.binds (ps := ["way", "size"]) fun _ _ _ _ _ _ us hl => match us, hl with | [_, _], _ => rfl
  have F33 := fun_mk (st := s_33) l33 c33 k33
  have b33 := F33.binds (ps := ["one", "times"]) fun _ _ _ _ _ _ us hl => match us, hl with | [_, _], _ => rfl
  have F50 := fun_mk (st := s_50) l50 c50 k50
  have b50 := F50.binds (ps := ["_law_script", "_law_k"]) fun _ _ _ _ _ _ us hl => match us, hl with | [_, _], _ => rfl
  have F51 := fun_mk (st := s_51) l51 c51 k51
  have b51 := F51.binds (ps := ["_law_d", "_law_most"]) fun _ _ _ _ _ _ us hl => match us, hl with | [_, _], _ => rfl
  have F52 := fun_mk (st := s_52) l52 c52 k52
  have b52 := F52.binds (ps := ["_law_found", "_law_due"]) fun _ _ _ _ _ _ us hl => match us, hl with | [_, _], _ => rfl
  have F53 := fun_mk (st := s_53) l53 c53 k53
  have b53 := F53.binds (ps := ["_law_d", "_law_row"]) fun _ _ _ _ _ _ us hl => match us, hl with | [_, _], _ => rfl
  have F54 := fun_mk (st := s_54) l54 c54 k54
  have b54 := F54.binds (ps := ["_law_top_here", "_law_end"]) fun _ _ _ _ _ _ us hl => match us, hl with | [_, _], _ => rfl
  have F55 := fun_mk (st := s_55) l55 c55 k55
  have b55 := F55.binds (ps := ["_law_d", "_law_top_here", "_law_end"]) fun _ _ _ _ _ _ us hl => match us, hl with | [_, _, _], _ => rfl
  have F56 := fun_mk (st := s_56) l56 c56 k56
  have b56 := F56.binds (ps := ["_law_d", "_law_top_here", "_law_end"]) fun _ _ _ _ _ _ us hl => match us, hl with | [_, _, _], _ => rfl
  have F57 := fun_mk (st := s_57) l57 c57 k57
  have b57 := F57.binds (ps := ["_law_d", "_law_top_here"]) fun _ _ _ _ _ _ us hl => match us, hl with | [_, _], _ => rfl
  have F58 := fun_mk (st := s_58) l58 c58 k58
  have b58 := F58.binds (ps := ["_law_d", "_law_way_here", "_law_most"]) fun _ _ _ _ _ _ us hl => match us, hl with | [_, _, _], _ => rfl
  have F59 := fun_mk (st := s_59) l59 c59 k59
  have b59 := F59.binds (ps := ["_law_way_here"]) fun _ _ _ _ _ _ us hl => match us, hl with | [_], _ => rfl
  have F60 := fun_mk (st := s_60) l60 c60 k60
  have b60 := F60.binds (ps := ["_law_way_here"]) fun _ _ _ _ _ _ us hl => match us, hl with | [_], _ => rfl
  have F62 := fun_mk (st := s_62) l62 c62 k62
  have b62 := F62.binds (ps := ["_law_d"]) fun _ _ _ _ _ _ us hl => match us, hl with | [_], _ => rfl
  have F63 := fun_mk (st := s_63) l63 c63 k63
  have b63 := F63.binds (ps := ["_law_d"]) fun _ _ _ _ _ _ us hl => match us, hl with | [_], _ => rfl
  have F72 := fun_mk (st := s_72) l72 c72 k72
  have b72 := F72.binds (ps := ["_law_one", "_law_times"]) fun _ _ _ _ _ _ us hl => match us, hl with | [_, _], _ => rfl
  have F80 := fun_mk (st := s_80) l80 c80 k80
  have b80 := F80.binds (ps := ["_law_script"]) fun _ _ _ _ _ _ us hl => match us, hl with | [_], _ => rfl
  refine ⟨⟨fun i => match i with | 0 => f0 | 1 => f1 | 2 => f2 | 3 => f3 | 4 => f4 | 5 => f5 | 6 => f6 | 7 => f7 | 8 => f8 | 9 => f9 | 10 => f10 | 11 => f11 | 12 => f12 | 13 => f13 | 14 => f14 | 15 => f15 | 16 => f16 | 17 => f17 | 18 => f18 | 19 => f19 | 20 => f20 | 21 => f21 | 22 => f22 | 23 => f23 | 24 => f24 | 25 => f25 | 30 => f30 | 31 => f31 | 32 => f32 | 33 => f33 | 50 => f50 | 51 => f51 | 52 => f52 | 53 => f53 | 54 => f54 | 55 => f55 | 56 => f56 | 57 => f57 | 58 => f58 | 59 => f59 | 60 => f60 | 62 => f62 | 63 => f63 | 72 => f72 | 80 => f80 | _ => 0, fun i => match i with | 0 => PySem.W.fnOf "row_number" "row_number" (defArgs s_0) (defBody s_0) (defScope s_0) .none kV0 dc0 pm0 an0 cd0 ct0 | 1 => PySem.W.fnOf "row_at" "row_at" (defArgs s_1) (defBody s_1) (defScope s_1) .none kV1 dc1 pm1 an1 cd1 ct1 | 2 => PySem.W.fnOf "split_rows" "split_rows" (defArgs s_2) (defBody s_2) (defScope s_2) .none kV2 dc2 pm2 an2 cd2 ct2 | 3 => PySem.W.fnOf "grouped" "grouped" (defArgs s_3) (defBody s_3) (defScope s_3) .none kV3 dc3 pm3 an3 cd3 ct3 | 4 => PySem.W.fnOf "counted" "counted" (defArgs s_4) (defBody s_4) (defScope s_4) .none kV4 dc4 pm4 an4 cd4 ct4 | 5 => PySem.W.fnOf "coded" "coded" (defArgs s_5) (defBody s_5) (defScope s_5) .none kV5 dc5 pm5 an5 cd5 ct5 | 6 => PySem.W.fnOf "first_state" "first_state" (defArgs s_6) (defBody s_6) (defScope s_6) .none kV6 dc6 pm6 an6 cd6 ct6 | 7 => PySem.W.fnOf "code_step" "code_step" (defArgs s_7) (defBody s_7) (defScope s_7) .none kV7 dc7 pm7 an7 cd7 ct7 | 8 => PySem.W.fnOf "count_step" "count_step" (defArgs s_8) (defBody s_8) (defScope s_8) .none kV8 dc8 pm8 an8 cd8 ct8 | 9 => PySem.W.fnOf "step" "step" (defArgs s_9) (defBody s_9) (defScope s_9) .none kV9 dc9 pm9 an9 cd9 ct9 | 10 => PySem.W.fnOf "last" "last" (defArgs s_10) (defBody s_10) (defScope s_10) .none kV10 dc10 pm10 an10 cd10 ct10 | 11 => PySem.W.fnOf "core" "core" (defArgs s_11) (defBody s_11) (defScope s_11) .none kV11 dc11 pm11 an11 cd11 ct11 | 12 => PySem.W.fnOf "turns" "turns" (defArgs s_12) (defBody s_12) (defScope s_12) .none kV12 dc12 pm12 an12 cd12 ct12 | 13 => PySem.W.fnOf "is_plain" "is_plain" (defArgs s_13) (defBody s_13) (defScope s_13) .none kV13 dc13 pm13 an13 cd13 ct13 | 14 => PySem.W.fnOf "are_plain" "are_plain" (defArgs s_14) (defBody s_14) (defScope s_14) .none kV14 dc14 pm14 an14 cd14 ct14 | 15 => PySem.W.fnOf "begins" "begins" (defArgs s_15) (defBody s_15) (defScope s_15) .none kV15 dc15 pm15 an15 cd15 ct15 | 16 => PySem.W.fnOf "are_codes" "are_codes" (defArgs s_16) (defBody s_16) (defScope s_16) .none kV16 dc16 pm16 an16 cd16 ct16 | 17 => PySem.W.fnOf "are_pairs" "are_pairs" (defArgs s_17) (defBody s_17) (defScope s_17) .none kV17 dc17 pm17 an17 cd17 ct17 | 18 => PySem.W.fnOf "fault_of" "fault_of" (defArgs s_18) (defBody s_18) (defScope s_18) .none kV18 dc18 pm18 an18 cd18 ct18 | 19 => PySem.W.fnOf "need_way" "need_way" (defArgs s_19) (defBody s_19) (defScope s_19) .none kV19 dc19 pm19 an19 cd19 ct19 | 20 => PySem.W.fnOf "escaped_codes" "escaped_codes" (defArgs s_20) (defBody s_20) (defScope s_20) .none kV20 dc20 pm20 an20 cd20 ct20 | 21 => PySem.W.fnOf "__init__" "Plan.__init__" (defArgs s_21) (defBody s_21) (defScope s_21) .none kV21 dc21 pm21 an21 cd21 ct21 | 22 => PySem.W.fnOf "told" "Plan.told" (defArgs s_22) (defBody s_22) (defScope s_22) .none kV22 dc22 pm22 an22 cd22 ct22 | 23 => PySem.W.fnOf "plain" "Plan.plain" (defArgs s_23) (defBody s_23) (defScope s_23) .none kV23 dc23 pm23 an23 cd23 ct23 | 24 => PySem.W.fnOf "exchanged" "Plan.exchanged" (defArgs s_24) (defBody s_24) (defScope s_24) .none kV24 dc24 pm24 an24 cd24 ct24 | 25 => PySem.W.fnOf "back" "Plan.back" (defArgs s_25) (defBody s_25) (defScope s_25) .none kV25 dc25 pm25 an25 cd25 ct25 | 30 => PySem.W.fnOf "worst" "worst" (defArgs s_30) (defBody s_30) (defScope s_30) .none kV30 dc30 pm30 an30 cd30 ct30 | 31 => PySem.W.fnOf "gone_on" "gone_on" (defArgs s_31) (defBody s_31) (defScope s_31) .none kV31 dc31 pm31 an31 cd31 ct31 | 32 => PySem.W.fnOf "frames_of" "frames_of" (defArgs s_32) (defBody s_32) (defScope s_32) .none kV32 dc32 pm32 an32 cd32 ct32 | 33 => PySem.W.fnOf "power" "power" (defArgs s_33) (defBody s_33) (defScope s_33) .none kV33 dc33 pm33 an33 cd33 ct33 | 50 => PySem.W.fnOf "_law_dice" "_law_dice" (defArgs s_50) (defBody s_50) (defScope s_50) .none kV50 dc50 pm50 an50 cd50 ct50 | 51 => PySem.W.fnOf "_law_off" "_law_off" (defArgs s_51) (defBody s_51) (defScope s_51) .none kV51 dc51 pm51 an51 cd51 ct51 | 52 => PySem.W.fnOf "_law_alike" "_law_alike" (defArgs s_52) (defBody s_52) (defScope s_52) .none kV52 dc52 pm52 an52 cd52 ct52 | 53 => PySem.W.fnOf "_law_mixed" "_law_mixed" (defArgs s_53) (defBody s_53) (defScope s_53) .none kV53 dc53 pm53 an53 cd53 ct53 | 54 => PySem.W.fnOf "_law_plain" "_law_plain" (defArgs s_54) (defBody s_54) (defScope s_54) .none kV54 dc54 pm54 an54 cd54 ct54 | 55 => PySem.W.fnOf "_law_codes" "_law_codes" (defArgs s_55) (defBody s_55) (defScope s_55) .none kV55 dc55 pm55 an55 cd55 ct55 | 56 => PySem.W.fnOf "_law_escapes" "_law_escapes" (defArgs s_56) (defBody s_56) (defScope s_56) .none kV56 dc56 pm56 an56 cd56 ct56 | 57 => PySem.W.fnOf "_law_base" "_law_base" (defArgs s_57) (defBody s_57) (defScope s_57) .none kV57 dc57 pm57 an57 cd57 ct57 | 58 => PySem.W.fnOf "_law_turned" "_law_turned" (defArgs s_58) (defBody s_58) (defScope s_58) .none kV58 dc58 pm58 an58 cd58 ct58 | 59 => PySem.W.fnOf "_law_core" "_law_core" (defArgs s_59) (defBody s_59) (defScope s_59) .none kV59 dc59 pm59 an59 cd59 ct59 | 60 => PySem.W.fnOf "_law_top" "_law_top" (defArgs s_60) (defBody s_60) (defScope s_60) .none kV60 dc60 pm60 an60 cd60 ct60 | 62 => PySem.W.fnOf "_law_size" "_law_size" (defArgs s_62) (defBody s_62) (defScope s_62) .none kV62 dc62 pm62 an62 cd62 ct62 | 63 => PySem.W.fnOf "_law_way" "_law_way" (defArgs s_63) (defBody s_63) (defScope s_63) .none kV63 dc63 pm63 an63 cd63 ct63 | 72 => PySem.W.fnOf "_law_power" "_law_power" (defArgs s_72) (defBody s_72) (defScope s_72) .none kV72 dc72 pm72 an72 cd72 ct72 | 80 => PySem.W.fnOf "law" "law" (defArgs s_80) (defBody s_80) (defScope s_80) .none kV80 dc80 pm80 an80 cd80 ct80 | _ => PySem.W.fnOf "law" "law" (defArgs s_80) (defBody s_80) (defScope s_80) .none kV80 dc80 pm80 an80 cd80 ct80, fun i => match i with | 0 => ca0 | _ => 0⟩, rfl, ?_, fun s v => .of_eq rfl⟩
  exact ⟨F0, b0, PySem.W.mg_of X G a0, k0, F1, b1, PySem.W.mg_of X G a1, k1, F2, b2, PySem.W.mg_of X G a2, k2, F3, b3, PySem.W.mg_of X G a3, k3, F4, b4, PySem.W.mg_of X G a4, k4, F5, b5, PySem.W.mg_of X G a5, k5, F6, b6, PySem.W.mg_of X G a6, k6, F7, b7, PySem.W.mg_of X G a7, k7, F8, b8, PySem.W.mg_of X G a8, k8, F9, b9, PySem.W.mg_of X G a9, k9, F10, b10, PySem.W.mg_of X G a10, k10, F11, b11, PySem.W.mg_of X G a11, k11, F12, b12, PySem.W.mg_of X G a12, k12, F13, b13, PySem.W.mg_of X G a13, k13, F14, b14, PySem.W.mg_of X G a14, k14, F15, b15, PySem.W.mg_of X G a15, k15, F16, b16, PySem.W.mg_of X G a16, k16, F17, b17, PySem.W.mg_of X G a17, k17, F18, b18, PySem.W.mg_of X G a18, k18, F19, b19, PySem.W.mg_of X G a19, k19, F20, b20, PySem.W.mg_of X G a20, k20, F21, b21, F22, b22, F23, b23, F24, b24, F25, b25, F30, b30, PySem.W.mg_of X G a30, k30, F31, b31, PySem.W.mg_of X G a31, k31, F32, b32, PySem.W.mg_of X G a32, k32, F33, b33, PySem.W.mg_of X G a33, k33, F50, b50, PySem.W.mg_of X G a50, k50, F51, b51, PySem.W.mg_of X G a51, k51, F52, b52, PySem.W.mg_of X G a52, k52, F53, b53, PySem.W.mg_of X G a53, k53, F54, b54, PySem.W.mg_of X G a54, k54, F55, b55, PySem.W.mg_of X G a55, k55, F56, b56, PySem.W.mg_of X G a56, k56, F57, b57, PySem.W.mg_of X G a57, k57, F58, b58, PySem.W.mg_of X G a58, k58, F59, b59, PySem.W.mg_of X G a59, k59, F60, b60, PySem.W.mg_of X G a60, k60, F62, b62, PySem.W.mg_of X G a62, k62, F63, b63, PySem.W.mg_of X G a63, k63, F72, b72, PySem.W.mg_of X G a72, k72, F80, b80, PySem.W.mg_of X G a80, k80, ⟨pg0, hd0, po0, sa0⟩, PySem.W.mg_of X G aC0, ⟨mk0, a21, i21, kc0⟩, na0_codes, na0_end, na0_kind, na0_limit, na0_signs, na0_top, ⟨a25, i25, k25⟩, ⟨a24, i24, k24⟩, ⟨a23, i23, k23⟩, PySem.W.mg_none_of X G n_abs, PySem.W.mg_none_of X G n_all, PySem.W.mg_none_of X G n_bool, PySem.W.mg_none_of X G n_enumerate, PySem.W.mg_none_of X G n_int, PySem.W.mg_none_of X G n_isinstance, PySem.W.mg_none_of X G n_len, PySem.W.mg_none_of X G n_list, PySem.W.mg_none_of X G n_max, PySem.W.mg_none_of X G n_range, PySem.W.mg_none_of X G n_reversed, PySem.W.mg_none_of X G n_set, PySem.W.mg_none_of X G n_sorted, PySem.W.mg_none_of X G n_str, PySem.W.mg_none_of X G n_sum, PySem.W.mg_none_of X G n_tuple, ⟨_, PySem.W.mg_of X G c_LEAST_TOP⟩, ⟨_, PySem.W.mg_of X G c_MOST_CODE⟩, ⟨_, PySem.W.mg_of X G c_MOST_TOP⟩, ⟨_, PySem.W.mg_of X G c_MOST_TURNS⟩⟩
theorem walk {l : PySem.W.OpenLaw} {q : Program} {loose : List Str} {XP : (Str → Option Value) → Heap → Prop} {YP : World → Heap → Prop} {d : DefRec} {K : Params → PySem.W.Frag} (hn : l.most = some 63) (hdf : d.params.defaults = [])
    (hY : ∀ (w : World) (h : Heap), YP w h → (K w.params).In h) (hl : ∀ ns : List Int, ns.length ≤ 63 → evF T pr wf 40 80 [.va (.scr ns)] = .ok (.va (.bl true), none))
    (F : ∀ (w : World) (mg : Str → Option Value) (fa : Addr) (h : Heap), (K w.params).In h → h.Ns mainGlobals mg → mg d.name = some (.ref fa) → ∃ ev : Ev, ev.fa 80 = fa ∧ Txt (K w.params) mg ev ∧ ∀ (s : Shared) (v : Value), BindsTo s (ev.fd 80) ⟨[v], []⟩ [("_law_script", v)]) :
    PySem.W.WalkO q loose XP YP l.row.toRowW d [] (fun f vs => PySem.call f vs) :=
  L2.walk_of (n := 63) (k := 82) (x := "_law_script") (CX := fun _ => CX0) (sp := fun w => spLaw (K w.params)) hn (by decide) hdf ⟨rfl, by decide, by decide⟩ hY (fun w mg fa h KX G hfa => by
    obtain ⟨ev, e, Z, hb⟩ := F w mg fa h KX G hfa
    subst e
    exact ⟨_, hb, fun base _ _ => ok_law Z hl⟩) (fun _ _ a ns hl _ hS => ⟨a, ns, rfl, hS, hl, fun _ => rfl⟩) fun _ _ _ _ _ z => z
end K13

open PySem PySem.W PyProof.Rows
set_option maxRecDepth 100000 in
set_option maxHeartbeats 0 in
theorem PySem.Challenge.cw_escaperow_k13_whole_rooms_and_bodies_holds : PySem.Challenge.rw_escaperow_k13_whole_rooms_and_bodies.Holds := by
  w_on; o_law; k_head; (case hw => w_witness2)
  k_fill
  refine K13.walk (l := PySem.Challenge.rw_escaperow_k13_whole_rooms_and_bodies) rfl rfl (fun w h Y => PySem.W.kIn_of Y) (fun ns h => K13.law_true (W := K13.wf) (by decide) 28 ns h) ?F
  case F =>
    intro w mg fa h KX G hmg
    refine' K13.all_mk KX G hmg ?aC0 ?pg0 ?hd0 ?po0 ?sa0 ?mk0 ?kc0 ?a0 ?l0 ?c0 ?k0 ?a1 ?l1 ?c1 ?k1 ?a2 ?l2 ?c2 ?k2 ?a3 ?l3 ?c3 ?k3 ?a4 ?l4 ?c4 ?k4 ?a5 ?l5 ?c5 ?k5 ?a6 ?l6 ?c6 ?k6 ?a7 ?l7 ?c7 ?k7 ?a8 ?l8 ?c8 ?k8 ?a9 ?l9 ?c9 ?k9 ?a10 ?l10 ?c10 ?k10 ?a11 ?l11 ?c11 ?k11 ?a12 ?l12 ?c12 ?k12 ?a13 ?l13 ?c13 ?k13 ?a14 ?l14 ?c14 ?k14 ?a15 ?l15 ?c15 ?k15 ?a16 ?l16 ?c16 ?k16 ?a17 ?l17 ?c17 ?k17 ?a18 ?l18 ?c18 ?k18 ?a19 ?l19 ?c19 ?k19 ?a20 ?l20 ?c20 ?k20 ?a21 ?i21 ?l21 ?c21 ?k21 ?a22 ?i22 ?l22 ?c22 ?k22 ?a23 ?i23 ?l23 ?c23 ?k23 ?a24 ?i24 ?l24 ?c24 ?k24 ?a25 ?i25 ?l25 ?c25 ?k25 ?a30 ?l30 ?c30 ?k30 ?a31 ?l31 ?c31 ?k31 ?a32 ?l32 ?c32 ?k32 ?a33 ?l33 ?c33 ?k33 ?a50 ?l50 ?c50 ?k50 ?a51 ?l51 ?c51 ?k51 ?a52 ?l52 ?c52 ?k52 ?a53 ?l53 ?c53 ?k53 ?a54 ?l54 ?c54 ?k54 ?a55 ?l55 ?c55 ?k55 ?a56 ?l56 ?c56 ?k56 ?a57 ?l57 ?c57 ?k57 ?a58 ?l58 ?c58 ?k58 ?a59 ?l59 ?c59 ?k59 ?a60 ?l60 ?c60 ?k60 ?a62 ?l62 ?c62 ?k62 ?a63 ?l63 ?c63 ?k63 ?a72 ?l72 ?c72 ?k72 ?a80 ?l80 ?c80 ?k80 ?na0_codes ?na0_end ?na0_kind ?na0_limit ?na0_signs ?na0_top ?n_abs ?n_all ?n_bool ?n_enumerate ?n_int ?n_isinstance ?n_len ?n_list ?n_max ?n_range ?n_reversed ?n_set ?n_sorted ?n_str ?n_sum ?n_tuple ?c_LEAST_TOP ?c_MOST_CODE ?c_MOST_TOP ?c_MOST_TURNS
    (case aC0 => k_is)
    (case pg0 => k_is)
    (case hd0 => k_is)
    (case po0 => k_is)
    (case sa0 => k_is)
    (case mk0 => k_is)
    (case kc0 => k_is)
    (case a0 => k_is)
    (case l0 => k_is)
    (case c0 => k_is)
    (case k0 => k_is)
    (case a1 => k_is)
    (case l1 => k_is)
    (case c1 => k_is)
    (case k1 => k_is)
    (case a2 => k_is)
    (case l2 => k_is)
    (case c2 => k_is)
    (case k2 => k_is)
    (case a3 => k_is)
    (case l3 => k_is)
    (case c3 => k_is)
    (case k3 => k_is)
    (case a4 => k_is)
    (case l4 => k_is)
    (case c4 => k_is)
    (case k4 => k_is)
    (case a5 => k_is)
    (case l5 => k_is)
    (case c5 => k_is)
    (case k5 => k_is)
    (case a6 => k_is)
    (case l6 => k_is)
    (case c6 => k_is)
    (case k6 => k_is)
    (case a7 => k_is)
    (case l7 => k_is)
    (case c7 => k_is)
    (case k7 => k_is)
    (case a8 => k_is)
    (case l8 => k_is)
    (case c8 => k_is)
    (case k8 => k_is)
    (case a9 => k_is)
    (case l9 => k_is)
    (case c9 => k_is)
    (case k9 => k_is)
    (case a10 => k_is)
    (case l10 => k_is)
    (case c10 => k_is)
    (case k10 => k_is)
    (case a11 => k_is)
    (case l11 => k_is)
    (case c11 => k_is)
    (case k11 => k_is)
    (case a12 => k_is)
    (case l12 => k_is)
    (case c12 => k_is)
    (case k12 => k_is)
    (case a13 => k_is)
    (case l13 => k_is)
    (case c13 => k_is)
    (case k13 => k_is)
    (case a14 => k_is)
    (case l14 => k_is)
    (case c14 => k_is)
    (case k14 => k_is)
    (case a15 => k_is)
    (case l15 => k_is)
    (case c15 => k_is)
    (case k15 => k_is)
    (case a16 => k_is)
    (case l16 => k_is)
    (case c16 => k_is)
    (case k16 => k_is)
    (case a17 => k_is)
    (case l17 => k_is)
    (case c17 => k_is)
    (case k17 => k_is)
    (case a18 => k_is)
    (case l18 => k_is)
    (case c18 => k_is)
    (case k18 => k_is)
    (case a19 => k_is)
    (case l19 => k_is)
    (case c19 => k_is)
    (case k19 => k_is)
    (case a20 => k_is)
    (case l20 => k_is)
    (case c20 => k_is)
    (case k20 => k_is)
    (case a21 => k_is)
    (case i21 => k_is)
    (case l21 => k_is)
    (case c21 => k_is)
    (case k21 => k_is)
    (case a22 => k_is)
    (case i22 => k_is)
    (case l22 => k_is)
    (case c22 => k_is)
    (case k22 => k_is)
    (case a23 => k_is)
    (case i23 => k_is)
    (case l23 => k_is)
    (case c23 => k_is)
    (case k23 => k_is)
    (case a24 => k_is)
    (case i24 => k_is)
    (case l24 => k_is)
    (case c24 => k_is)
    (case k24 => k_is)
    (case a25 => k_is)
    (case i25 => k_is)
    (case l25 => k_is)
    (case c25 => k_is)
    (case k25 => k_is)
    (case a30 => k_is)
    (case l30 => k_is)
    (case c30 => k_is)
    (case k30 => k_is)
    (case a31 => k_is)
    (case l31 => k_is)
    (case c31 => k_is)
    (case k31 => k_is)
    (case a32 => k_is)
    (case l32 => k_is)
    (case c32 => k_is)
    (case k32 => k_is)
    (case a33 => k_is)
    (case l33 => k_is)
    (case c33 => k_is)
    (case k33 => k_is)
    (case a50 => k_is)
    (case l50 => k_is)
    (case c50 => k_is)
    (case k50 => k_is)
    (case a51 => k_is)
    (case l51 => k_is)
    (case c51 => k_is)
    (case k51 => k_is)
    (case a52 => k_is)
    (case l52 => k_is)
    (case c52 => k_is)
    (case k52 => k_is)
    (case a53 => k_is)
    (case l53 => k_is)
    (case c53 => k_is)
    (case k53 => k_is)
    (case a54 => k_is)
    (case l54 => k_is)
    (case c54 => k_is)
    (case k54 => k_is)
    (case a55 => k_is)
    (case l55 => k_is)
    (case c55 => k_is)
    (case k55 => k_is)
    (case a56 => k_is)
    (case l56 => k_is)
    (case c56 => k_is)
    (case k56 => k_is)
    (case a57 => k_is)
    (case l57 => k_is)
    (case c57 => k_is)
    (case k57 => k_is)
    (case a58 => k_is)
    (case l58 => k_is)
    (case c58 => k_is)
    (case k58 => k_is)
    (case a59 => k_is)
    (case l59 => k_is)
    (case c59 => k_is)
    (case k59 => k_is)
    (case a60 => k_is)
    (case l60 => k_is)
    (case c60 => k_is)
    (case k60 => k_is)
    (case a62 => k_is)
    (case l62 => k_is)
    (case c62 => k_is)
    (case k62 => k_is)
    (case a63 => k_is)
    (case l63 => k_is)
    (case c63 => k_is)
    (case k63 => k_is)
    (case a72 => k_is)
    (case l72 => k_is)
    (case c72 => k_is)
    (case k72 => k_is)
    (case a80 => k_is)
    (case l80 => k_is)
    (case c80 => k_is)
    (case k80 => k_is)
    (case na0_codes => k_is)
    (case na0_end => k_is)
    (case na0_kind => k_is)
    (case na0_limit => k_is)
    (case na0_signs => k_is)
    (case na0_top => k_is)
    (case n_abs => k_is)
    (case n_all => k_is)
    (case n_bool => k_is)
    (case n_enumerate => k_is)
    (case n_int => k_is)
    (case n_isinstance => k_is)
    (case n_len => k_is)
    (case n_list => k_is)
    (case n_max => k_is)
    (case n_range => k_is)
    (case n_reversed => k_is)
    (case n_set => k_is)
    (case n_sorted => k_is)
    (case n_str => k_is)
    (case n_sum => k_is)
    (case n_tuple => k_is)
    (case c_LEAST_TOP => k_is)
    (case c_MOST_CODE => k_is)
    (case c_MOST_TOP => k_is)
    (case c_MOST_TURNS => k_is)
#print axioms PySem.Challenge.cw_escaperow_k13_whole_rooms_and_bodies_holds

