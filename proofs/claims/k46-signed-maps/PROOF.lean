import PyProof.Rows.All
import Wide.All
import OpenK.AllK
import Wide.FinOn
import KE.KStateDown
import Lean
import HandS.Head0
import HandS.Head1
import HandS.Head2
import HandS.HeadEnd
import HandS.HeadHook1
import HandS.HeadHook2
import HandS.ForMost
import HandS.Defaults
import HandS.Style
import HandS.EndBits
import KE.GoesZip
import KE.GoesMore
import HandS.Iter
import HandS.Zip
import HandS.Conv
import HandS.TryOnly
import HandS.NoneIn
import KE.GoesEnumKw
import KE.GoesEnum
import PyProof.EnumMake
import PyProof.ListMulRoad
import PyProof.FactsAll.tuple_2
import HandS.TupMul
import KE.DataEq
import KE.DataFind
import PyProof.DictStraight
import HandS.Strs
import PyProof.EqAt
import PyProof.EqKinds
import PyProof.TupleCall
import PyProof.Rows.SortShell
import KE.KSortTup
import PyProof.ReprRoads
import PyProof.CallFns
import HandS.SortInts
import HandS.SortOrd
import PyProof.Rows.DictListFold
import PyProof.Rows.DictFold
import HandS.IsInst
import HandS.Gcd
import HandS.TupLen
import HandS.WordsDict
import HandS.TupAny
import HandS.TupLe
import HandS.Wide
import HandS.Deep
import PyProof.ReprLen
import PySem.Challenge.RW_flowlattices_k46_signed_maps
set_option Elab.async false
set_option linter.all false
set_option maxRecDepth 100000
set_option maxHeartbeats 4000000
/-! DZ1: zip(.., strict=True) over two iterators of one length. -/
namespace DL.Zs
open PySem

abbrev IsZs (h : Heap) (z TI TO : Addr) (f0 : Value) : Prop := h.get? z = some { cls := .type "zip", dict := none, data := .fields #[f0, .bool false, .bool true, .ref TI, .ref TO], slots := #[] }
section
variable {prog : Program} {w : World} {A : Around} {E : Value → Shared → Prop} {s : Shared}
theorem noe_item {it : Addr} {fp : List Addr} {n i : Nat} {P : Nat → Value → Prop} {St : Nat → Heap → Prop} {Q : Option Value → Shared → Prop} (Dr : Draws prog w A it fp n P St) (hi : i < n) (st : St i s.heap)
    (hQ : ∀ x h' tk, P i x → St (i + 1) h' → Heap.SameBut it s.heap h' → Q (some x) { s with heap := h', toks := tk }) : wpAny (model prog w) A (Builtin.SmallTypes.nextOrEnd (.ref it)) Q E s := by
  unfold Builtin.SmallTypes.nextOrEnd
  exact wpAny_bind (wpAny_attempt (Dr.item i s _ _ hi st fun x h' tk a b c => wpAny_pure (hQ x h' tk a b c)))
theorem noe_done {it : Addr} {fp : List Addr} {n : Nat} {P : Nat → Value → Prop} {St : Nat → Heap → Prop} {Q : Option Value → Shared → Prop} (Dr : Draws prog w A it fp n P St) (st : St n s.heap)
    (hQ : ∀ h', Heap.ExtBut it s.heap h' → Q none { s with heap := h' }) : wpAny (model prog w) A (Builtin.SmallTypes.nextOrEnd (.ref it)) Q E s := by
  unfold Builtin.SmallTypes.nextOrEnd
  refine wpAny_bind (wpAny_attempt (Dr.done s _ _ st fun h' e a b => ?_))
  obtain ⟨o, ho, hc⟩ := b
  exact wpAny_bind (wpAny_isInstance (T := "StopIteration") (b := true) ⟨o, ho, hc⟩ isSubtype_stop (wpAny_pure (hQ h' a)))
theorem stopI {α : Type} {Q : α → Shared → Prop} (hh : A.handled = none) (hE : ∀ h' e, (∀ b o, s.heap.get? b = some o → h'.get? b = some o) → (∃ o, h'.get? e = some o ∧ o.cls = .type "StopIteration") → E (.ref e) { s with heap := h' }) :
    wpAny (model prog w) A (Builtin.SmallTypes.stopIteration (α := α)) Q E s := by
  unfold Builtin.SmallTypes.stopIteration
  show wpAny _ _ (newExc (.type "StopIteration") [] >>= fun e => raiseNew e) _ _ _
  refine wpAny_bind ?_
  simp only [newExc, newTuple]
  refine wpAny_bind (wpAny_newObj_type (wpAny_bind (m := firstArgMember _ _) (wpAny_of_eq (a := Value.none) (by first | rfl | (simp only [firstArgMember]; rfl)) (wpAny_newObj_type ?_ (by size_fits)))) (by size_fits))
  simp only [raiseNew]
  refine wpAny_bind (wpAny_handled ?_)
  rw [hh]
  refine wpAny_bind (wpAny_pure (wpAny_throw (hE _ _ (fun b o e => Heap.get?_push_of_some _ (Heap.get?_push_of_some _ e)) ⟨_, Heap.get?_push_size _ rfl, rfl⟩)))

variable {z TI TO i1 i2 : Addr} {fp1 fp2 : List Addr} {n i : Nat} {P1 P2 : Nat → Value → Prop} {St1 St2 : Nat → Heap → Prop} {a1 a2 : Value}
theorem zs_item {Q : Value → Shared → Prop} (S : ZipSep2 z TI TO i1 i2 fp1 fp2) (D1 : Draws prog w A i1 fp1 n P1 St1) (D2 : Draws prog w A i2 fp2 n P2 St2)
    (hz : IsZs s.heap z TI TO .none) (hTI : IsTupOf2 s.heap TI (.ref i1) (.ref i2)) (hTO : IsTupOf2 s.heap TO a1 a2) (st1 : St1 i s.heap) (st2 : St2 i s.heap) (hlt : i < n)
    (hQ : ∀ x1 x2 h' tk, P1 i x1 → P2 i x2 → IsZs h' z TI TO (rawInt s.heap.objs.size) → IsTupOf2 h' TO x1 x2 → St1 (i + 1) h' → St2 (i + 1) h' → IsTupOf2 h' s.heap.objs.size x1 x2 → h'.objs.size = s.heap.objs.size + 1 →
      (∀ c o, c ≠ z → c ≠ TO → c ≠ i1 → c ≠ i2 → s.heap.get? c = some o → h'.get? c = some o) → Q (.ref s.heap.objs.size) { s with heap := h', toks := tk }) :
    wpAny (model prog w) A (Builtin.«zip.__next__» ⟨[.ref z], []⟩) (fun fin s' => ∃ v, fin = .done (.ret v) ∧ Q v s') E s := by
  obtain ⟨hp, g, d, tk0, os⟩ := s
  show wpAny _ _ (field (.ref z) 2 >>= _) _ _ _; refine wpAny_bind (wpAny_field hz rfl (x := .bool true) rfl ?_)
  show wpAny _ _ (field (.ref z) 3 >>= _) _ _ _; refine wpAny_bind (wpAny_field hz rfl (x := .ref TI) rfl (wpAny_bind (wpAny_seqItems hTI rfl ?_)))
  show wpAny _ _ (Builtin.SmallTypes.ownedTupleIsFree (.ref z) >>= _) _ _ _; refine wpAny_bind ?_; unfold Builtin.SmallTypes.ownedTupleIsFree
  refine wpAny_bind (wpAny_field hz rfl (x := .none) rfl (wpAny_pure ?_)); simp only [if_true]
  refine wpAny_bind (wpAny_rule (wpAny_bind (wpAny_field hz rfl (x := .ref TO) rfl (wpAny_bind (wpAny_setField_rec hz (by simp) fun g0 hz0 hs0 => ?_)))))
  replace hz0 : IsZs g0 z TI TO .ellipsis := hz0; replace hs0 : Heap.SameBut z hp g0 := hs0
  refine wpAny_bind ?_; simp only [List.zipIdx_cons, List.zipIdx_nil, List.forIn_cons, List.forIn_nil]
  refine wpAny_bind (wpAny_bind (wpAny_onRaise ?_)); show wpAny _ _ (Builtin.SmallTypes.nextOrEnd (.ref i1)) _ _ ⟨g0, g, d, tk0, os⟩
  refine noe_item D1 hlt (D1.over st1 hs0 S.zf1) fun x1 p1 tk1 hx1 sn1 hp1 => ?_
  replace hp1 : Heap.SameBut i1 g0 p1 := hp1; have hU1 : IsTupOf2 p1 TO a1 a2 := hp1.extBut _ _ S.Ti1 (hs0.extBut _ _ S.TOz hTO)
  refine wpAny_bind (wpAny_seqItems (s := ⟨p1, g, d, tk1, os⟩) hU1 rfl (wpAny_bind (updateSeq_IsTupOf2 (s := ⟨p1, g, d, tk1, os⟩) hU1 fun g1 hT1 hs1 => ?_)))
  replace hT1 : IsTupOf2 g1 TO x1 a2 := hT1; replace hs1 : Heap.SameBut TO p1 g1 := hs1
  refine wpAny_bind (wpAny_letGo (wpAny_pure (wpAny_bind (wpAny_bind (wpAny_onRaise ?_))))); show wpAny _ _ (Builtin.SmallTypes.nextOrEnd (.ref i2)) _ _ ⟨g1, g, d, tk1, os⟩
  refine noe_item D2 hlt (D2.over (D2.over (D2.over st2 hs0 S.zf2) hp1 S.sep1_2) hs1 S.Tf2) fun x2 p2 tk2 hx2 sn2 hp2 => ?_
  replace hp2 : Heap.SameBut i2 g1 p2 := hp2; have hU2 : IsTupOf2 p2 TO x1 a2 := hp2.extBut _ _ S.Ti2 hT1
  refine wpAny_bind (wpAny_seqItems (s := ⟨p2, g, d, tk2, os⟩) hU2 rfl (wpAny_bind (updateSeq_IsTupOf2 (s := ⟨p2, g, d, tk2, os⟩) hU2 fun g2 hT2 hs2 => ?_)))
  replace hT2 : IsTupOf2 g2 TO x1 x2 := hT2; replace hs2 : Heap.SameBut TO p2 g2 := hs2
  refine wpAny_bind (wpAny_letGo (wpAny_pure (wpAny_pure (wpAny_bind (wpAny_seqItems (s := ⟨g2, g, d, tk2, os⟩) hT2 rfl (wpAny_bind (wpAny_newTuple ?_)))))))
  have hsz : g2.objs.size = hp.objs.size := by rw [hs2.1, hp2.1, hs1.1, hp1.1, hs0.1]
  have hzz : IsZs g2 z TI TO .ellipsis := (hs2.extBut _ _ S.TOz.symm (hp2.extBut _ _ S.zi2 (hs1.extBut _ _ S.TOz.symm (hp1.extBut _ _ S.zi1 hz0))))
  have hkk : ∀ c o, c ≠ z → c ≠ TO → c ≠ i1 → c ≠ i2 → hp.get? c = some o → g2.get? c = some o := fun c o cz cT c1 c2 e => hs2.extBut _ _ cT (hp2.extBut _ _ c2 (hs1.extBut _ _ cT (hp1.extBut _ _ c1 (hs0.extBut _ _ cz e))))
  have hj1 : St1 (i + 1) g2 := D1.over (D1.over (D1.over sn1 hs1 S.Tf1) hp2 S.sep2_1) hs2 S.Tf1; have hj2 : St2 (i + 1) g2 := D2.over sn2 hs2 S.Tf2
  have hzlt : z < g2.objs.size := Heap.lt_size hzz; show wpAny _ _ (Builtin.SmallTypes.ownedTupleHandOut (.ref z) (.ref g2.objs.size) >>= _) _ _ ⟨g2.push { cls := .type "tuple", data := .seq #[x1, x2] }, g, d, tk2, os⟩
  refine wpAny_bind ?_; unfold Builtin.SmallTypes.ownedTupleHandOut
  have hz6 : IsZs (g2.push { cls := .type "tuple", data := .seq #[x1, x2] }) z TI TO .ellipsis := Heap.get?_push_of_some _ hzz
  refine wpAny_bind (wpAny_setField_rec hz6 (by simp) fun h7 hz7 hs7 => ?_)
  replace hz7 : IsZs h7 z TI TO (rawInt g2.objs.size) := hz7
  refine wpAny_setField_rec hz7 (by simp) fun h8 hz8 hs8 => ?_
  replace hz8 : IsZs h8 z TI TO (rawInt g2.objs.size) := hz8
  replace hs7 : Heap.SameBut z (g2.push { cls := .type "tuple", data := .seq #[x1, x2] }) h7 := hs7; replace hs8 : Heap.SameBut z h7 h8 := hs8
  have up : ∀ c o, c ≠ z → g2.get? c = some o → h8.get? c = some o := fun c o c1 e => hs8.extBut _ _ c1 (hs7.extBut _ _ c1 (Heap.get?_push_of_some _ e))
  have hT8 : IsTupOf2 h8 g2.objs.size x1 x2 := hs8.extBut _ _ (Nat.ne_of_gt hzlt) (hs7.extBut _ _ (Nat.ne_of_gt hzlt) (Heap.get?_push_size _ rfl))
  have hn8 : h8.objs.size = g2.objs.size + 1 := by rw [hs8.1, hs7.1, Heap.size_push]
  rw [hsz] at hz8 hT8 hn8; refine wpAny_pure ⟨_, rfl, ?_⟩; show Q (.ref g2.objs.size) ⟨h8, g, d, tk2, os⟩; rw [hsz]
  exact hQ x1 x2 h8 tk2 hx1 hx2 hz8 (up _ _ S.TOz hT2) (D1.frame _ _ _ hj1 fun b hb o e => up b o (fun q => S.zf1 (q ▸ hb)) e) (D2.frame _ _ _ hj2 fun b hb o e => up b o (fun q => S.zf2 (q ▸ hb)) e) hT8 hn8 fun c o cz cT c1 c2 e => up c o cz (hkk c o cz cT c1 c2 e)
theorem zs_end {Q : Fin → Shared → Prop} (hh : A.handled = none) (S : ZipSep2 z TI TO i1 i2 fp1 fp2) (D1 : Draws prog w A i1 fp1 n P1 St1) (D2 : Draws prog w A i2 fp2 n P2 St2)
    (hz : IsZs s.heap z TI TO .none) (hTI : IsTupOf2 s.heap TI (.ref i1) (.ref i2)) (hTO : IsTupOf2 s.heap TO a1 a2) (st1 : St1 n s.heap) (st2 : St2 n s.heap) (f2 : ∀ h h', St2 n h → (∀ b o, b ≠ i1 → b ≠ z → h.get? b = some o → h'.get? b = some o) → St2 n h')
    (hE : ∀ h' tk e, (∀ c o, c ≠ z → c ≠ TO → c ≠ i1 → c ≠ i2 → s.heap.get? c = some o → h'.get? c = some o) → (∃ o, h'.get? e = some o ∧ o.cls = .type "StopIteration") → E (.ref e) { s with heap := h', toks := tk }) :
    wpAny (model prog w) A (Builtin.«zip.__next__» ⟨[.ref z], []⟩) Q E s := by
  obtain ⟨hp, g, d, tk0, os⟩ := s
  show wpAny _ _ (field (.ref z) 2 >>= _) _ _ _; refine wpAny_bind (wpAny_field hz rfl (x := .bool true) rfl ?_)
  show wpAny _ _ (field (.ref z) 3 >>= _) _ _ _; refine wpAny_bind (wpAny_field hz rfl (x := .ref TI) rfl (wpAny_bind (wpAny_seqItems hTI rfl ?_)))
  show wpAny _ _ (Builtin.SmallTypes.ownedTupleIsFree (.ref z) >>= _) _ _ _; refine wpAny_bind ?_; unfold Builtin.SmallTypes.ownedTupleIsFree
  refine wpAny_bind (wpAny_field hz rfl (x := .none) rfl (wpAny_pure ?_)); simp only [if_true]
  refine wpAny_bind (wpAny_rule (wpAny_bind (wpAny_field hz rfl (x := .ref TO) rfl (wpAny_bind (wpAny_setField_rec hz (by simp) fun g0 hz0 hs0 => ?_)))))
  replace hz0 : IsZs g0 z TI TO .ellipsis := hz0; replace hs0 : Heap.SameBut z hp g0 := hs0
  refine wpAny_bind ?_; simp only [List.zipIdx_cons, List.zipIdx_nil, List.forIn_cons, List.forIn_nil]
  refine wpAny_bind (wpAny_bind (wpAny_onRaise ?_)); show wpAny _ _ (Builtin.SmallTypes.nextOrEnd (.ref i1)) _ _ ⟨g0, g, d, tk0, os⟩
  refine noe_done D1 (D1.over st1 hs0 S.zf1) fun q hq => ?_
  replace hq : Heap.ExtBut i1 g0 q := hq; have hzq : IsZs q z TI TO .ellipsis := hq _ _ S.zi1 hz0
  refine wpAny_bind (wpAny_setField_rec (s := ⟨q, g, d, tk0, os⟩) hzq (by simp) fun q1 hz1 hq1 => ?_)
  replace hq1 : Heap.SameBut z q q1 := hq1
  have st2' : St2 n q1 := f2 _ _ st2 fun b o n1 n2 e => hq1.extBut _ _ n2 (hq _ _ n1 (hs0.extBut _ _ n2 e))
  refine wpAny_bind (wpAny_bind ?_); simp only [List.drop_succ_cons, List.drop_zero, List.zipIdx_cons, List.zipIdx_nil, List.forIn_cons, List.forIn_nil]
  refine wpAny_bind (wpAny_bind (noe_done D2 st2' fun q2 hq2 => ?_))
  replace hq2 : Heap.ExtBut i2 q1 q2 := hq2
  refine wpAny_pure (wpAny_pure (wpAny_bind (wpAny_rule (stopI hh fun h' e k he => ?_))))
  exact hE h' tk0 e (fun c o cz cT c1 c2 e => k _ _ (hq2 _ _ c2 (hq1.extBut _ _ cz (hq _ _ c1 (hs0.extBut _ _ cz e))))) he
end
end DL.Zs
set_option Elab.async false
set_option linter.all false
set_option maxRecDepth 100000
set_option maxHeartbeats 4000000
/-! DZ2: strict zip begins and walks; enumerate of anything; a walk that hands out tuples, as the hand layer's Turn. -/
namespace DL.Zs
open PySem

section
variable {prog : Program} {w : World} {A : Around} {E : Value → Shared → Prop} {s : Shared}
theorem zs_letGo {elts : List Expr} {x1} {pos : Pos} {z TI TO T : Addr} {Q : Unit → Shared → Prop} (hz : IsZs s.heap z TI TO (rawInt T)) (hQ : ∀ h', IsZs h' z TI TO .none → Heap.SameBut z s.heap h' → Q () { s with heap := h' }) :
    wpAny (model prog w) A (letOwnedTupleGo (.Tuple elts x1 pos) (.ref z) (.ref T)) Q E s := by
  unfold letOwnedTupleGo
  refine wpAny_bind (wpAny_load hz ?_)
  show wpAny _ _ (if (["enumerate", "zip", "dict_itemiterator", "dict_reverseitemiterator", "odict_iterator", "itertools.zip_longest", "itertools.pairwise"].contains "zip" && (#[rawInt T, .bool false, .bool true, .ref TI, .ref TO] : Array Value)[0]? == some (rawInt T)) = true then _ else _) Q E s
  rw [if_pos (by simp)]
  refine wpAny_bind (wpAny_rule ?_); show wpAny _ _ (setField (.ref z) 0 .none) Q E s
  exact wpAny_setField_rec hz (by simp) fun h' hz' hs' => hQ h' hz' hs'
theorem zs_iter {z TI TO : Addr} {f0 : Value} {Q : Value → Shared → Prop} (hz : IsZs s.heap z TI TO f0) (h : Q (.ref z) s) : wpAny (model prog w) A (pyIter (.ref z)) Q E s := by
  have hT : s.TypeIs (.ref z) "zip" := ⟨_, hz, rfl⟩
  refine wpAny_pyIter_slot hT F.slot_zip_iter (wpAny_call_entry F.slot_zip_iter hT F.entry_zip_iter ?_ (F.args_zip_iter_1 _)); show wpAny _ _ (ret (.ref z)) _ _ s
  exact wpAny_pure ⟨_, rfl, "zip", _, hT, F.slot_zip_next.lookup, h⟩
variable {z TI TO i1 i2 : Addr} {fp1 fp2 : List Addr} {n i : Nat} {P1 P2 : Nat → Value → Prop} {St1 St2 : Nat → Heap → Prop} {a1 a2 : Value}
theorem zs_next {Q : Option Value → Shared → Prop} (S : ZipSep2 z TI TO i1 i2 fp1 fp2) (D1 : Draws prog w A.in1 i1 fp1 n P1 St1) (D2 : Draws prog w A.in1 i2 fp2 n P2 St2)
    (hz : IsZs s.heap z TI TO .none) (hTI : IsTupOf2 s.heap TI (.ref i1) (.ref i2)) (hTO : IsTupOf2 s.heap TO a1 a2) (st1 : St1 i s.heap) (st2 : St2 i s.heap) (hlt : i < n)
    (hQ : ∀ x1 x2 h' tk, P1 i x1 → P2 i x2 → IsZs h' z TI TO (rawInt s.heap.objs.size) → IsTupOf2 h' TO x1 x2 → St1 (i + 1) h' → St2 (i + 1) h' → IsTupOf2 h' s.heap.objs.size x1 x2 → h'.objs.size = s.heap.objs.size + 1 →
      (∀ c o, c ≠ z → c ≠ TO → c ≠ i1 → c ≠ i2 → s.heap.get? c = some o → h'.get? c = some o) → Q (some (.ref s.heap.objs.size)) { s with heap := h', toks := tk }) : wpAny (model prog w) A (pyNext (.ref z)) Q E s := by
  have hT : s.TypeIs (.ref z) "zip" := ⟨_, hz, rfl⟩
  unfold pyNext
  exact wpAny_bind (wpAny_attempt (wpAny_callSpecial?_slot (name := Str.ofString "__next__") hT F.slot_zip_next (wpAny_call_entry F.slot_zip_next hT F.entry_zip_next
      (zs_item S D1 D2 hz hTI hTO st1 st2 hlt fun x1 x2 h' tk y1 y2 b1 b2 d1 d2 b5 b6 b7 => wpAny_pure (hQ x1 x2 h' tk y1 y2 b1 b2 d1 d2 b5 b6 b7)) (F.args_zip_next_1 _))))
theorem zs_stop {Q : Option Value → Shared → Prop} (hh : A.handled = none) (S : ZipSep2 z TI TO i1 i2 fp1 fp2) (D1 : Draws prog w A.in1 i1 fp1 n P1 St1) (D2 : Draws prog w A.in1 i2 fp2 n P2 St2)
    (hz : IsZs s.heap z TI TO .none) (hTI : IsTupOf2 s.heap TI (.ref i1) (.ref i2)) (hTO : IsTupOf2 s.heap TO a1 a2) (st1 : St1 n s.heap) (st2 : St2 n s.heap) (f2 : ∀ h h', St2 n h → (∀ b o, b ≠ i1 → b ≠ z → h.get? b = some o → h'.get? b = some o) → St2 n h')
    (hQ : ∀ h' tk, (∀ c o, c ≠ z → c ≠ TO → c ≠ i1 → c ≠ i2 → s.heap.get? c = some o → h'.get? c = some o) → Q none { s with heap := h', toks := tk }) : wpAny (model prog w) A (pyNext (.ref z)) Q E s := by
  have hT : s.TypeIs (.ref z) "zip" := ⟨_, hz, rfl⟩
  unfold pyNext
  refine wpAny_bind (wpAny_attempt (wpAny_callSpecial?_slot (name := Str.ofString "__next__") hT F.slot_zip_next (wpAny_call_entry F.slot_zip_next hT F.entry_zip_next
      (zs_end (A := A.in1) hh S D1 D2 hz hTI hTO st1 st2 f2 fun h' tk e hk he => ?_) (F.args_zip_next_1 _))))
  obtain ⟨o, ho, hc⟩ := he
  exact wpAny_bind (wpAny_isInstance (T := "StopIteration") (b := true) ⟨o, ho, hc⟩ isSubtype_stop (wpAny_pure (hQ _ _ hk)))
/-- a walk that hands out new tuples, told exactly -/
structure WalksX (prog : Program) (w : World) (A : Around) (I : Addr) (wr : List Addr) (n : Nat) (Pt : Nat → Array Value → Prop) (St : Nat → Heap → Prop) (Mid : Nat → Addr → Heap → Prop) : Prop where
  item : ∀ i (s : Shared) (Q : Option Value → Shared → Prop) (E : Value → Shared → Prop), i < n → St i s.heap →
    (∀ T vals h' tk, Pt i vals → s.heap.objs.size ≤ T → h'.get? T = some { cls := .type "tuple", data := .seq vals } → Mid i T h' → (∀ b o, b ∉ wr → s.heap.get? b = some o → h'.get? b = some o) → Q (some (.ref T)) { s with heap := h', toks := tk }) → wpAny (model prog w) A (pyNext (.ref I)) Q E s
  go : ∀ (elts : List Expr) (k : Nat) (pos : Pos) i T (s : Shared) (Q : Unit → Shared → Prop) (E : Value → Shared → Prop), Mid i T s.heap → (∀ h', St (i + 1) h' → (∀ b o, b ∉ wr → s.heap.get? b = some o → h'.get? b = some o) → Q () { s with heap := h' }) →
    wpAny (model prog w) A (letOwnedTupleGo (.Tuple elts k pos) (.ref I) (.ref T)) Q E s
  apart : ∀ i T h, Mid i T h → T ∉ wr
  done : ∀ (s : Shared) (Q : Option Value → Shared → Prop) (E : Value → Shared → Prop), St n s.heap → (∀ h' tk, (∀ b o, b ∉ wr → s.heap.get? b = some o → h'.get? b = some o) → Q none { s with heap := h', toks := tk }) → wpAny (model prog w) A (pyNext (.ref I)) Q E s
/-- a strict zip of two of one length -/
theorem walkS2 (hh : A.handled = none) (S : ZipSep2 z TI TO i1 i2 fp1 fp2) (hi1 : i1 ≠ z) (D1 : Draws prog w A.in1 i1 fp1 n P1 St1) (D2 : Draws prog w A.in1 i2 fp2 n P2 St2) :
    WalksX prog w A z [z, TO, i1, i2] n (fun i vals => ∃ x1 x2, P1 i x1 ∧ P2 i x2 ∧ vals = #[x1, x2])
      (fun i h => IsZs h z TI TO .none ∧ IsTupOf2 h TI (.ref i1) (.ref i2) ∧ (∃ a1 a2, IsTupOf2 h TO a1 a2) ∧ St1 i h ∧ St2 i h)
      (fun i T h => IsZs h z TI TO (rawInt T) ∧ IsTupOf2 h TI (.ref i1) (.ref i2) ∧ (∃ a1 a2, IsTupOf2 h TO a1 a2) ∧ St1 (i + 1) h ∧ St2 (i + 1) h ∧ T ≠ z ∧ T ≠ TO ∧ T ≠ i1 ∧ T ≠ i2) where
  item := fun i s Q E hi hst hQ => by
    obtain ⟨hz, hTI, ⟨a1, a2, hTO⟩, st1, st2⟩ := hst
    refine zs_next S D1 D2 hz hTI hTO st1 st2 hi fun x1 x2 h' tk y1 y2 b1 b2 d1 d2 b5 b6 hk => ?_
    have lt : ∀ {c o}, s.heap.get? c = some o → s.heap.objs.size ≠ c := fun e => Nat.ne_of_gt (Heap.lt_size e)
    have l1 : s.heap.objs.size ≠ i1 := by obtain ⟨_, e⟩ := D1.live _ _ st1; exact lt e
    have l2 : s.heap.objs.size ≠ i2 := by obtain ⟨_, e⟩ := D2.live _ _ st2; exact lt e
    exact hQ s.heap.objs.size #[x1, x2] h' tk ⟨x1, x2, y1, y2, rfl⟩ (Nat.le_refl _) b5 ⟨b1, hk _ _ S.TIz S.TITO S.TIi1 S.TIi2 hTI, ⟨_, _, b2⟩, d1, d2, lt hz, lt hTO, l1, l2⟩
      fun c o hc e => hk c o (fun x => hc (by simp [x])) (fun x => hc (by simp [x])) (fun x => hc (by simp [x])) (fun x => hc (by simp [x])) e
  go := fun elts k pos i T s Q E hm hQ => by
    obtain ⟨hz, hTI, ⟨a1, a2, hTO⟩, st1, st2, _⟩ := hm
    exact zs_letGo hz fun h' hz' hs' => hQ h' ⟨hz', hs'.extBut _ _ S.TIz hTI, ⟨a1, a2, hs'.extBut _ _ S.TOz hTO⟩, D1.over st1 hs' S.zf1, D2.over st2 hs' S.zf2⟩ fun c o hc e => hs'.extBut _ _ (fun x => hc (by simp [x])) e
  apart := fun i T h hm hT => by
    obtain ⟨_, _, _, _, _, tz, tT, t1, t2⟩ := hm
    have hT' : T = z ∨ T = TO ∨ T = i1 ∨ T = i2 := by simpa using hT
    rcases hT' with e | e | e | e
    · exact tz e
    · exact tT e
    · exact t1 e
    · exact t2 e
  done := fun s Q E hst hQ => by
    obtain ⟨hz, hTI, ⟨a1, a2, hTO⟩, st1, st2⟩ := hst
    refine zs_stop hh S D1 D2 hz hTI hTO st1 st2 (fun h h' st k => D2.frame _ _ _ st fun b hb o e => k b o (fun z => S.sep1_2 (z ▸ hb)) (fun z => S.zf2 (z ▸ hb)) e) fun h' tk hk => hQ h' tk fun c o hc e => ?_
    exact hk c o (fun x => hc (by simp [x])) (fun x => hc (by simp [x])) (fun x => hc (by simp [x])) (fun x => hc (by simp [x])) e
theorem walkZ2 {n1 n2 : Nat} (S : ZipSep2 z TI TO i1 i2 fp1 fp2) (D1 : Draws prog w A.in1 i1 fp1 n1 P1 St1) (D2 : Draws prog w A.in1 i2 fp2 n2 P2 St2) :
    WalksX prog w A z [z, TO, i1, i2] (min n1 n2) (fun i vals => ∃ x1 x2, P1 i x1 ∧ P2 i x2 ∧ vals = #[x1, x2])
      (fun i h => IsZip h z TI TO .none ∧ IsTupOf2 h TI (.ref i1) (.ref i2) ∧ (∃ a1 a2, IsTupOf2 h TO a1 a2) ∧ St1 i h ∧ St2 i h)
      (fun i T h => IsZip h z TI TO (rawInt T) ∧ IsTupOf2 h TI (.ref i1) (.ref i2) ∧ (∃ a1 a2, IsTupOf2 h TO a1 a2) ∧ St1 (i + 1) h ∧ St2 (i + 1) h ∧ T ≠ z ∧ T ≠ TO ∧ T ≠ i1 ∧ T ≠ i2) where
  item := fun i s Q E hi hst hQ => by
    obtain ⟨hz, hTI, ⟨a1, a2, hTO⟩, st1, st2⟩ := hst
    refine wpAny_pyNext_zipD2_item S D1 D2 hz hTI hTO st1 st2 (by omega) (by omega) fun x1 x2 h' tk y1 y2 b1 b2 d1 d2 b5 b6 hk => ?_
    have lt : ∀ {c o}, s.heap.get? c = some o → s.heap.objs.size ≠ c := fun e => Nat.ne_of_gt (Heap.lt_size e)
    have l1 : s.heap.objs.size ≠ i1 := by obtain ⟨_, e⟩ := D1.live _ _ st1; exact lt e
    have l2 : s.heap.objs.size ≠ i2 := by obtain ⟨_, e⟩ := D2.live _ _ st2; exact lt e
    exact hQ s.heap.objs.size #[x1, x2] h' tk ⟨x1, x2, y1, y2, rfl⟩ (Nat.le_refl _) b5 ⟨b1, hk _ _ S.TIz S.TITO S.TIi1 S.TIi2 hTI, ⟨_, _, b2⟩, d1, d2, lt hz, lt hTO, l1, l2⟩
      fun c o hc e => hk c o (fun x => hc (by simp [x])) (fun x => hc (by simp [x])) (fun x => hc (by simp [x])) (fun x => hc (by simp [x])) e
  go := (WalksT.zipD2 S D1 D2).go
  apart := (WalksT.zipD2 S D1 D2).apart
  done := (WalksT.zipD2 S D1 D2).done
theorem walkEn {it e : Addr} {fp : List Addr} {P : Nat → Value → Prop} {St : Nat → Heap → Prop} (Dr : Draws prog w A.in1 it fp n P St) (hei : e ≠ it) (hef : e ∉ fp) (hif : it ∈ fp) :
    WalksX prog w A e [e, it] n (fun i vals => ∃ t x, P i x ∧ vals = #[.int i t, x]) (fun i h => (∃ old, IsEnum h e it i old) ∧ St i h) (fun i T h => (∃ x, IsEnumOut h e it ((i : Int) + 1) x T) ∧ St (i + 1) h ∧ T ≠ e ∧ T ≠ it) where
  item := fun i s Q E hi hst hQ => by
    obtain ⟨⟨old, he⟩, hs⟩ := hst
    refine wpAny_pyNext_enum_itemD Dr he hs hi hei hef fun x h' tk hP ho hs' hT hsz hk => ?_
    have l1 : e < s.heap.objs.size := Heap.lt_size he
    have l2 : it < s.heap.objs.size := by obtain ⟨_, y⟩ := Dr.live _ _ hs; exact Heap.lt_size y
    exact hQ s.heap.objs.size #[.int i tk, x] h' (tk + 1) ⟨_, _, hP, rfl⟩ (Nat.le_refl _) hT ⟨⟨_, ho⟩, hs', Nat.ne_of_gt l1, Nat.ne_of_gt l2⟩ fun b o hb y => hk b o (fun q => hb (by simp [q])) (fun q => hb (by simp [q])) y
  go := (WalksT.enumerateD Dr e hei hef hif).go
  apart := (WalksT.enumerateD Dr e hei hef hif).apart
  done := (WalksT.enumerateD Dr e hei hef hif).done
end
/-! it begins -/
abbrev zZ2 (h : Heap) (o1 o2 : Obj) : Heap := (gzO2 h o1 o2).push { cls := .type "zip", data := .fields #[.none, .bool false, .bool true, .ref ((h.push o1).push o2).objs.size, .ref (gzT2 h o1 o2).objs.size] }
abbrev kS : List (Str × Value) := [(Str.ofString "strict", .bool true)]
theorem tc_zip2 (a b : Value) : checkTypeCall "zip" ⟨[a, b], kS⟩ = pure () := by kernel_rfl
theorem nc_zip2 (a b : Value) : checkBuiltinCall "zip.__new__" ⟨[.type "zip", a, b], kS⟩ = pure () := by kernel_rfl
theorem oi_zip2 (obj a b : Value) : argsOk "object.__init__" ⟨[obj, a, b], kS⟩ := by unfold argsOk; kernel_rfl
theorem mk_zs2 {v1 v2 : Value} {o1 o2 : Obj} {H1 H2 : Heap → Prop} (B1 : Begins v1 o1 H1) (B2 : Begins v2 o2 H2) :
    Meets (Builtin.«zip.__new__» ⟨[.type "zip", v1, v2], kS⟩) (fun _ R s => (H1 s.heap ∧ H2 s.heap) ∧ R (.ok (.ret (.ref (gzO2 s.heap o1 o2).objs.size))) { s with heap := zZ2 s.heap o1 o2 }) :=
  .of_wp fun prog w A R s h => by
    obtain ⟨hp, g, d, tk, os⟩ := s; obtain ⟨⟨h1, h2⟩, h⟩ := h
    have hsub := sub_zip
    have hks : ((Str.ofString "strict" != Str.ofString "strict") : Bool) = false := by decide
    have q1 : ∀ {A' : Around} {E : Value → Shared → Prop} {Q : Value → Shared → Prop}, Q (.ref hp.objs.size) ⟨(hp.push o1), g, d, tk, os⟩ → wpAny (model prog w) A' (pyIter v1) Q E ⟨hp, g, d, tk, os⟩ := fun q => B1.iter prog w _ _ ⟨hp, g, d, tk, os⟩ _ (B1.keeps _ _ h1 fun b o' e => e) q
    have q2 : ∀ {A' : Around} {E : Value → Shared → Prop} {Q : Value → Shared → Prop}, Q (.ref (hp.push o1).objs.size) ⟨((hp.push o1).push o2), g, d, tk, os⟩ → wpAny (model prog w) A' (pyIter v2) Q E ⟨(hp.push o1), g, d, tk, os⟩ := fun q => B2.iter prog w _ _ ⟨(hp.push o1), g, d, tk, os⟩ _ (B2.keeps _ _ h2 fun b o' e => (Heap.get?_push_of_some _ e)) q
    wp_walk using q1, q2
    exact ⟨_, rfl, h⟩
end DL.Zs
set_option Elab.async false
set_option linter.all false
set_option maxRecDepth 100000
set_option maxHeartbeats 4000000
/-! DZ3: strict zip begins; enumerate of anything begins; the hand layer's Turn out of a walk that hands out tuples. -/
namespace DL.Zs
open PySem
section
variable {prog : Program} {w : World} {A : Around} {E : Value → Shared → Prop} {s : Shared}
theorem zs_begins {v1 v2 : Value} {o1 o2 : Obj} {H1 H2 : Heap → Prop} {Q : Value → Shared → Prop} (B1 : Begins v1 o1 H1) (B2 : Begins v2 o2 H2) (h1 : H1 s.heap) (h2 : H2 s.heap)
    (h : ∀ h', IsZs h' (s.heap.objs.size + 4) (s.heap.objs.size + 2) (s.heap.objs.size + 3) .none → IsTupOf2 h' (s.heap.objs.size + 2) (.ref s.heap.objs.size) (.ref (s.heap.objs.size + 1)) → IsTupOf2 h' (s.heap.objs.size + 3) .none .none →
      h'.get? s.heap.objs.size = some o1 → h'.get? (s.heap.objs.size + 1) = some o2 → (∀ c o, s.heap.get? c = some o → h'.get? c = some o) → Q (.ref (s.heap.objs.size + 4)) { s with heap := h' }) :
    wpAny (model prog w) A (call (.type "zip") [v1, v2] kS) Q E s := by
  refine callType_newKw F.called_zip (by decide) (tc_zip2 _ _) (nc_zip2 _ _) (fun obj => oi_zip2 obj _ _) F.entry_zip_new (mk_zs2 B1 B2) ⟨⟨h1, h2⟩, ?_⟩
  have z1 : (s.heap.push o1).objs.size = s.heap.objs.size + 1 := by rw [Heap.size_push]
  have z2 : ((s.heap.push o1).push o2).objs.size = s.heap.objs.size + 2 := by rw [Heap.size_push, z1]
  have zT : (gzT2 s.heap o1 o2).objs.size = s.heap.objs.size + 3 := by rw [Heap.size_push, z2]
  have zO : (gzO2 s.heap o1 o2).objs.size = s.heap.objs.size + 4 := by rw [Heap.size_push, zT]
  have up1 : ∀ {c o}, (gzO2 s.heap o1 o2).get? c = some o → (zZ2 s.heap o1 o2).get? c = some o := fun e => Heap.get?_push_of_some _ e
  have gZ : (zZ2 s.heap o1 o2).get? (gzO2 s.heap o1 o2).objs.size = some { cls := .type "zip", data := .fields #[.none, .bool false, .bool true, .ref ((s.heap.push o1).push o2).objs.size, .ref (gzT2 s.heap o1 o2).objs.size] } := Heap.get?_push_size _ rfl
  have gO : (zZ2 s.heap o1 o2).get? (gzT2 s.heap o1 o2).objs.size = some { cls := .type "tuple", data := .seq #[.none, .none] } := up1 (Heap.get?_push_size _ rfl)
  have gT : (zZ2 s.heap o1 o2).get? ((s.heap.push o1).push o2).objs.size = some { cls := .type "tuple", data := .seq #[.ref s.heap.objs.size, .ref (s.heap.push o1).objs.size] } := up1 (Heap.get?_push_of_some _ (Heap.get?_push_size _ rfl))
  have g1 : (zZ2 s.heap o1 o2).get? s.heap.objs.size = some o1 := up1 (Heap.get?_push_of_some _ (Heap.get?_push_of_some _ (Heap.get?_push_of_some _ (Heap.get?_push_size _ B1.free))))
  have g2 : (zZ2 s.heap o1 o2).get? (s.heap.push o1).objs.size = some o2 := up1 (Heap.get?_push_of_some _ (Heap.get?_push_of_some _ (Heap.get?_push_size _ B2.free)))
  rw [zO, zT, z2] at gZ; rw [zT] at gO; rw [z2, z1] at gT; rw [z1] at g2
  show _ ∧ _; rw [zO]
  exact ⟨⟨_, gZ, rfl⟩, h _ gZ gT gO g1 g2 fun c o e => up1 (Heap.get?_push_of_some _ (Heap.get?_push_of_some _ (Heap.get?_push_of_some _ (Heap.get?_push_of_some _ e))))⟩
end
theorem mk_en {v : Value} {o : Obj} {H : Heap → Prop} (B : Begins v o H) :
    Meets (Builtin.«enumerate.__new__» ⟨[.type "enumerate", v], []⟩) (fun _ R s => H s.heap ∧ R (.ok (.ret (.ref (s.heap.push o).objs.size))) { s with heap := (s.heap.push o).push { cls := .type "enumerate", data := .fields #[.none, .bool false, .ref s.heap.objs.size, rawInt 0, .none, .none] } }) :=
  .of_wp fun prog w A R s h => by
    obtain ⟨hp, g, d, tk, os⟩ := s; obtain ⟨h1, h⟩ := h
    have hsub := sub_enumerate
    have q1 : ∀ {A' : Around} {E : Value → Shared → Prop} {Q : Value → Shared → Prop}, Q (.ref hp.objs.size) ⟨hp.push o, g, d, tk, os⟩ → wpAny (model prog w) A' (pyIter v) Q E ⟨hp, g, d, tk, os⟩ := fun q => B.iter prog w _ _ ⟨hp, g, d, tk, os⟩ _ h1 q
    wp_walk using q1
    refine wpAny_stack_any fun st => wpAny_pure ?_
    split
    · rename_i c _ _ _ _ _
      cases (c == Value.type "enumerate") <;> (wp_walk using q1; exact ⟨_, rfl, h⟩)
    · wp_walk using q1; exact ⟨_, rfl, h⟩
section
variable {prog : Program} {w : World} {A : Around} {E : Value → Shared → Prop} {s : Shared}
theorem en_begins {v : Value} {o : Obj} {H : Heap → Prop} {Q : Value → Shared → Prop} (B : Begins v o H) (h1 : H s.heap)
    (h : ∀ h', IsEnum h' (s.heap.objs.size + 1) s.heap.objs.size 0 .none → h'.get? s.heap.objs.size = some o → (∀ b o, s.heap.get? b = some o → h'.get? b = some o) → Q (.ref (s.heap.objs.size + 1)) { s with heap := h' }) :
    wpAny (model prog w) A (call (.type "enumerate") [v]) Q E s := by
  refine callType_new F.called_enumerate (by decide) (F.typeCall_enumerate_1 _) (F.newCall_enumerate_1 _) (fun obj => F.args_object_init_2 obj _) F.entry_enumerate_new (mk_en B) ⟨h1, ?_⟩
  have hz : (s.heap.push o).objs.size = s.heap.objs.size + 1 := Heap.size_push ..
  show _ ∧ _; rw [hz]
  have he : IsEnum ((s.heap.push o).push { cls := .type "enumerate", data := .fields #[.none, .bool false, .ref s.heap.objs.size, rawInt 0, .none, .none] }) (s.heap.objs.size + 1) s.heap.objs.size 0 .none := by
    have h2 := Heap.get?_push_size (s.heap.push o) (o := { cls := .type "enumerate", data := .fields #[.none, .bool false, .ref s.heap.objs.size, rawInt 0, .none, .none] }) rfl
    rw [hz] at h2; exact h2
  exact ⟨⟨_, he, rfl⟩, h _ he (Heap.get?_push_of_some _ (Heap.get?_push_size _ B.free)) fun b o x => Heap.get?_push_of_some _ (Heap.get?_push_of_some _ x)⟩
end
section
variable {M : Model} {A : Around} {E : Value → Shared → Prop} {s : Shared} {env : Env}
theorem callWith_tyKw {pos : Pos} {T : String} {e : Expr} {rest : List Expr} {kws : List Keyword} {Q : Value → Shared → Prop}
    (h : wpAny M A (spliced (backTo pos (starEach (e :: rest) env))) (fun vs s₁ => wpAny M A (evalAll ((backToKw pos (keywordEach kws env)).map (·.2)))
      (fun kvs s₂ => wpAny M A (call (.type T) vs (((backToKw pos (keywordEach kws env)).filterMap (·.1)).zip kvs)) Q E s₂) E s₁) E s)
    (he : backTo pos (starEach (e :: rest) env) = (false, eval e env) :: backTo pos (starEach rest env) := by rfl) (hplain : (backTo pos (starEach (e :: rest) env)).any (·.1) = false := by rfl)
    (hall : (backToKw pos (keywordEach kws env)).all (·.1.isSome) = true := by rfl) (hkw : (backToKw pos (keywordEach kws env)).any (·.1.isNone) = false := by rfl) :
    wpAny M A (callWith pos (.type T) [] (backTo pos (starEach (e :: rest) env)) (backToKw pos (keywordEach kws env))) Q E s := by
  have h2 : wpAny M A (evalArgs (.type T) true (backTo pos (starEach (e :: rest) env)) (backToKw pos (keywordEach kws env))) (fun a s₁ => wpAny M A (call (.type T) ([] ++ a.pos) a.kw) Q E s₁) E s := by
    rw [he] at h ⊢
    exact PyProof.Rows.evalArgs_kwB hall h
  unfold callWith
  refine wpAny_bind (wpAny_holding (wpAny_mono h2 (fun a s₁ h₁ => wpAny_bind (wpAny_standAt ?_)) fun _ _ x => x))
  simp only [hplain, hkw, Bool.or_false]
  exact wpAny_bind (wpAny_pure (wpAny_bind (wpAny_mono h₁ (fun r s₂ hr => wpAny_bind (wpAny_holding (wpAny_point (wpAny_pure hr)))) fun _ _ x => x)))
end
end DL.Zs
set_option Elab.async false
set_option linter.all false
set_option maxRecDepth 100000
set_option maxHeartbeats 4000000
/-! DZ4: zip(.., strict=True) over three iterators of one length (printed by gen3.py). -/
namespace DL.Zs
open PySem
section
variable {prog : Program} {w : World} {A : Around} {E : Value → Shared → Prop} {s : Shared}
variable {z TI TO i1 i2 i3 : Addr} {fp1 fp2 fp3 : List Addr} {n i : Nat} {P1 P2 P3 : Nat → Value → Prop} {St1 St2 St3 : Nat → Heap → Prop} {a1 a2 a3 : Value}
theorem zs3_item {Q : Value → Shared → Prop} (S : ZipSep3 z TI TO i1 i2 i3 fp1 fp2 fp3) (D1 : Draws prog w A i1 fp1 n P1 St1) (D2 : Draws prog w A i2 fp2 n P2 St2) (D3 : Draws prog w A i3 fp3 n P3 St3)
    (hz : IsZs s.heap z TI TO .none) (hTI : IsTupOf3 s.heap TI (.ref i1) (.ref i2) (.ref i3)) (hTO : IsTupOf3 s.heap TO a1 a2 a3) (st1 : St1 i s.heap) (st2 : St2 i s.heap) (st3 : St3 i s.heap) (hlt : i < n)
    (hQ : ∀ x1 x2 x3 h' tk, P1 i x1 → P2 i x2 → P3 i x3 → IsZs h' z TI TO (rawInt s.heap.objs.size) → IsTupOf3 h' TO x1 x2 x3 → St1 (i + 1) h' → St2 (i + 1) h' → St3 (i + 1) h' → IsTupOf3 h' s.heap.objs.size x1 x2 x3 →
      (∀ c o, c ≠ z → c ≠ TO → c ≠ i1 → c ≠ i2 → c ≠ i3 → s.heap.get? c = some o → h'.get? c = some o) → Q (.ref s.heap.objs.size) { s with heap := h', toks := tk }) :
    wpAny (model prog w) A (Builtin.«zip.__next__» ⟨[.ref z], []⟩) (fun fin s' => ∃ v, fin = .done (.ret v) ∧ Q v s') E s := by
  obtain ⟨hp, g, d, tk0, os⟩ := s
  show wpAny _ _ (field (.ref z) 2 >>= _) _ _ _; refine wpAny_bind (wpAny_field hz rfl (x := .bool true) rfl ?_)
  show wpAny _ _ (field (.ref z) 3 >>= _) _ _ _; refine wpAny_bind (wpAny_field hz rfl (x := .ref TI) rfl (wpAny_bind (wpAny_seqItems hTI rfl ?_)))
  show wpAny _ _ (Builtin.SmallTypes.ownedTupleIsFree (.ref z) >>= _) _ _ _; refine wpAny_bind ?_; unfold Builtin.SmallTypes.ownedTupleIsFree
  refine wpAny_bind (wpAny_field hz rfl (x := .none) rfl (wpAny_pure ?_)); simp only [if_true]
  refine wpAny_bind (wpAny_rule (wpAny_bind (wpAny_field hz rfl (x := .ref TO) rfl (wpAny_bind (wpAny_setField_rec hz (by simp) fun g0 hz0 hs0 => ?_)))))
  replace hz0 : IsZs g0 z TI TO .ellipsis := hz0; replace hs0 : Heap.SameBut z hp g0 := hs0
  refine wpAny_bind ?_; simp only [List.zipIdx_cons, List.zipIdx_nil, List.forIn_cons, List.forIn_nil]
  refine wpAny_bind (wpAny_bind (wpAny_onRaise ?_)); show wpAny _ _ (Builtin.SmallTypes.nextOrEnd (.ref i1)) _ _ ⟨g0, g, d, tk0, os⟩
  refine noe_item D1 hlt (D1.over st1 hs0 S.zf1) fun x1 p1 tk1 hx1 sn1 hp1 => ?_
  replace hp1 : Heap.SameBut i1 g0 p1 := hp1; have hU1 : IsTupOf3 p1 TO a1 a2 a3 := hp1.extBut _ _ S.Ti1 (hs0.extBut _ _ S.TOz hTO)
  refine wpAny_bind (wpAny_seqItems (s := ⟨p1, g, d, tk1, os⟩) hU1 rfl (wpAny_bind (updateSeq_IsTupOf3 (s := ⟨p1, g, d, tk1, os⟩) hU1 fun g1 hT1 hs1 => ?_)))
  replace hT1 : IsTupOf3 g1 TO x1 a2 a3 := hT1; replace hs1 : Heap.SameBut TO p1 g1 := hs1
  refine wpAny_bind (wpAny_letGo (wpAny_pure (wpAny_bind (wpAny_bind (wpAny_onRaise ?_))))); show wpAny _ _ (Builtin.SmallTypes.nextOrEnd (.ref i2)) _ _ ⟨g1, g, d, tk1, os⟩
  refine noe_item D2 hlt (D2.over (D2.over (D2.over st2 hs0 S.zf2) hp1 S.sep1_2) hs1 S.Tf2) fun x2 p2 tk2 hx2 sn2 hp2 => ?_
  replace hp2 : Heap.SameBut i2 g1 p2 := hp2; have hU2 : IsTupOf3 p2 TO x1 a2 a3 := hp2.extBut _ _ S.Ti2 hT1
  refine wpAny_bind (wpAny_seqItems (s := ⟨p2, g, d, tk2, os⟩) hU2 rfl (wpAny_bind (updateSeq_IsTupOf3 (s := ⟨p2, g, d, tk2, os⟩) hU2 fun g2 hT2 hs2 => ?_)))
  replace hT2 : IsTupOf3 g2 TO x1 x2 a3 := hT2; replace hs2 : Heap.SameBut TO p2 g2 := hs2
  refine wpAny_bind (wpAny_letGo (wpAny_pure (wpAny_bind (wpAny_bind (wpAny_onRaise ?_))))); show wpAny _ _ (Builtin.SmallTypes.nextOrEnd (.ref i3)) _ _ ⟨g2, g, d, tk2, os⟩
  refine noe_item D3 hlt (D3.over (D3.over (D3.over (D3.over (D3.over st3 hs0 S.zf3) hp1 S.sep1_3) hs1 S.Tf3) hp2 S.sep2_3) hs2 S.Tf3) fun x3 p3 tk3 hx3 sn3 hp3 => ?_
  replace hp3 : Heap.SameBut i3 g2 p3 := hp3; have hU3 : IsTupOf3 p3 TO x1 x2 a3 := hp3.extBut _ _ S.Ti3 hT2
  refine wpAny_bind (wpAny_seqItems (s := ⟨p3, g, d, tk3, os⟩) hU3 rfl (wpAny_bind (updateSeq_IsTupOf3 (s := ⟨p3, g, d, tk3, os⟩) hU3 fun g3 hT3 hs3 => ?_)))
  replace hT3 : IsTupOf3 g3 TO x1 x2 x3 := hT3; replace hs3 : Heap.SameBut TO p3 g3 := hs3
  refine wpAny_bind (wpAny_letGo (wpAny_pure (wpAny_pure (wpAny_bind (wpAny_seqItems (s := ⟨g3, g, d, tk3, os⟩) hT3 rfl (wpAny_bind (wpAny_newTuple ?_)))))))
  have hsz : g3.objs.size = hp.objs.size := by rw [hs3.1, hp3.1, hs2.1, hp2.1, hs1.1, hp1.1, hs0.1]
  have hzz : IsZs g3 z TI TO .ellipsis := hs3.extBut _ _ S.TOz.symm (hp3.extBut _ _ S.zi3 (hs2.extBut _ _ S.TOz.symm (hp2.extBut _ _ S.zi2 (hs1.extBut _ _ S.TOz.symm (hp1.extBut _ _ S.zi1 hz0)))))
  have hkk : ∀ c o, c ≠ z → c ≠ TO → c ≠ i1 → c ≠ i2 → c ≠ i3 → hp.get? c = some o → g3.get? c = some o := fun c o cz cT c1 c2 c3 e => hs3.extBut _ _ cT (hp3.extBut _ _ c3 (hs2.extBut _ _ cT (hp2.extBut _ _ c2 (hs1.extBut _ _ cT (hp1.extBut _ _ c1 (hs0.extBut _ _ cz e))))))
  have hj1 : St1 (i + 1) g3 := D1.over (D1.over (D1.over (D1.over (D1.over sn1 hs1 S.Tf1) hp2 S.sep2_1) hs2 S.Tf1) hp3 S.sep3_1) hs3 S.Tf1; have hj2 : St2 (i + 1) g3 := D2.over (D2.over (D2.over sn2 hs2 S.Tf2) hp3 S.sep3_2) hs3 S.Tf2; have hj3 : St3 (i + 1) g3 := D3.over sn3 hs3 S.Tf3
  have hzlt : z < g3.objs.size := Heap.lt_size hzz; show wpAny _ _ (Builtin.SmallTypes.ownedTupleHandOut (.ref z) (.ref g3.objs.size) >>= _) _ _ ⟨g3.push { cls := .type "tuple", data := .seq #[x1, x2, x3] }, g, d, tk3, os⟩
  refine wpAny_bind ?_; unfold Builtin.SmallTypes.ownedTupleHandOut
  have hz6 : IsZs (g3.push { cls := .type "tuple", data := .seq #[x1, x2, x3] }) z TI TO .ellipsis := Heap.get?_push_of_some _ hzz
  refine wpAny_bind (wpAny_setField_rec hz6 (by simp) fun h7 hz7 hs7 => ?_); replace hz7 : IsZs h7 z TI TO (rawInt g3.objs.size) := hz7
  refine wpAny_setField_rec hz7 (by simp) fun h8 hz8 hs8 => ?_; replace hz8 : IsZs h8 z TI TO (rawInt g3.objs.size) := hz8
  replace hs7 : Heap.SameBut z (g3.push { cls := .type "tuple", data := .seq #[x1, x2, x3] }) h7 := hs7; replace hs8 : Heap.SameBut z h7 h8 := hs8
  have up : ∀ c o, c ≠ z → g3.get? c = some o → h8.get? c = some o := fun c o c1 e => hs8.extBut _ _ c1 (hs7.extBut _ _ c1 (Heap.get?_push_of_some _ e))
  have hT8 : IsTupOf3 h8 g3.objs.size x1 x2 x3 := hs8.extBut _ _ (Nat.ne_of_gt hzlt) (hs7.extBut _ _ (Nat.ne_of_gt hzlt) (Heap.get?_push_size _ rfl))
  rw [hsz] at hz8 hT8; refine wpAny_pure ⟨_, rfl, ?_⟩; show Q (.ref g3.objs.size) ⟨h8, g, d, tk3, os⟩; rw [hsz]
  exact hQ x1 x2 x3 h8 tk3 hx1 hx2 hx3 hz8 (up _ _ S.TOz hT3) (D1.frame _ _ _ hj1 fun b hb o e => up b o (fun q => S.zf1 (q ▸ hb)) e) (D2.frame _ _ _ hj2 fun b hb o e => up b o (fun q => S.zf2 (q ▸ hb)) e) (D3.frame _ _ _ hj3 fun b hb o e => up b o (fun q => S.zf3 (q ▸ hb)) e) hT8 fun c o cz cT c1 c2 c3 e => up c o cz (hkk c o cz cT c1 c2 c3 e)
theorem zs3_end {Q : Fin → Shared → Prop} (hh : A.handled = none) (S : ZipSep3 z TI TO i1 i2 i3 fp1 fp2 fp3) (D1 : Draws prog w A i1 fp1 n P1 St1) (D2 : Draws prog w A i2 fp2 n P2 St2) (D3 : Draws prog w A i3 fp3 n P3 St3)
    (hz : IsZs s.heap z TI TO .none) (hTI : IsTupOf3 s.heap TI (.ref i1) (.ref i2) (.ref i3)) (hTO : IsTupOf3 s.heap TO a1 a2 a3) (st1 : St1 n s.heap) (st2 : St2 n s.heap) (st3 : St3 n s.heap) (f2 : ∀ h h', St2 n h → (∀ b o, b ≠ i1 → b ≠ z → h.get? b = some o → h'.get? b = some o) → St2 n h') (f3 : ∀ h h', St3 n h → (∀ b o, b ≠ i1 → b ≠ i2 → b ≠ z → h.get? b = some o → h'.get? b = some o) → St3 n h')
    (hE : ∀ h' tk e, (∀ c o, c ≠ z → c ≠ TO → c ≠ i1 → c ≠ i2 → c ≠ i3 → s.heap.get? c = some o → h'.get? c = some o) → (∃ o, h'.get? e = some o ∧ o.cls = .type "StopIteration") → E (.ref e) { s with heap := h', toks := tk }) : wpAny (model prog w) A (Builtin.«zip.__next__» ⟨[.ref z], []⟩) Q E s := by
  obtain ⟨hp, g, d, tk0, os⟩ := s
  show wpAny _ _ (field (.ref z) 2 >>= _) _ _ _; refine wpAny_bind (wpAny_field hz rfl (x := .bool true) rfl ?_)
  show wpAny _ _ (field (.ref z) 3 >>= _) _ _ _; refine wpAny_bind (wpAny_field hz rfl (x := .ref TI) rfl (wpAny_bind (wpAny_seqItems hTI rfl ?_)))
  show wpAny _ _ (Builtin.SmallTypes.ownedTupleIsFree (.ref z) >>= _) _ _ _; refine wpAny_bind ?_; unfold Builtin.SmallTypes.ownedTupleIsFree
  refine wpAny_bind (wpAny_field hz rfl (x := .none) rfl (wpAny_pure ?_)); simp only [if_true]
  refine wpAny_bind (wpAny_rule (wpAny_bind (wpAny_field hz rfl (x := .ref TO) rfl (wpAny_bind (wpAny_setField_rec hz (by simp) fun g0 hz0 hs0 => ?_)))))
  replace hz0 : IsZs g0 z TI TO .ellipsis := hz0; replace hs0 : Heap.SameBut z hp g0 := hs0
  refine wpAny_bind ?_; simp only [List.zipIdx_cons, List.zipIdx_nil, List.forIn_cons, List.forIn_nil]
  refine wpAny_bind (wpAny_bind (wpAny_onRaise ?_)); show wpAny _ _ (Builtin.SmallTypes.nextOrEnd (.ref i1)) _ _ ⟨g0, g, d, tk0, os⟩
  refine noe_done D1 (D1.over st1 hs0 S.zf1) fun q hq => ?_
  replace hq : Heap.ExtBut i1 g0 q := hq; have hzq : IsZs q z TI TO .ellipsis := hq _ _ S.zi1 hz0
  refine wpAny_bind (wpAny_setField_rec (s := ⟨q, g, d, tk0, os⟩) hzq (by simp) fun q1 hz1 hq1 => ?_)
  replace hq1 : Heap.SameBut z q q1 := hq1
  have st2' : St2 n q1 := f2 _ _ st2 fun b o n1 n2 e => hq1.extBut _ _ n2 (hq _ _ n1 (hs0.extBut _ _ n2 e))
  refine wpAny_bind (wpAny_bind ?_); simp only [List.drop_succ_cons, List.drop_zero, List.zipIdx_cons, List.zipIdx_nil, List.forIn_cons, List.forIn_nil]
  refine wpAny_bind (wpAny_bind (noe_done D2 st2' fun q2 hq2 => ?_))
  replace hq2 : Heap.ExtBut i2 q1 q2 := hq2
  have st3' : St3 n q2 := f3 _ _ st3 fun b o n1 n2 n3 e => hq2 _ _ n2 (hq1.extBut _ _ n3 (hq _ _ n1 (hs0.extBut _ _ n3 e)))
  refine wpAny_pure (wpAny_bind (wpAny_bind (noe_done D3 st3' fun q3 hq3 => ?_)))
  replace hq3 : Heap.ExtBut i3 q2 q3 := hq3
  refine wpAny_pure (wpAny_pure (wpAny_bind (wpAny_rule (stopI hh fun h' e k he => ?_))))
  exact hE h' tk0 e (fun c o cz cT c1 c2 c3 e => k _ _ (hq3 _ _ c3 (hq2 _ _ c2 (hq1.extBut _ _ cz (hq _ _ c1 (hs0.extBut _ _ cz e)))))) he
theorem zs3_next {Q : Option Value → Shared → Prop} (S : ZipSep3 z TI TO i1 i2 i3 fp1 fp2 fp3) (D1 : Draws prog w A.in1 i1 fp1 n P1 St1) (D2 : Draws prog w A.in1 i2 fp2 n P2 St2) (D3 : Draws prog w A.in1 i3 fp3 n P3 St3)
    (hz : IsZs s.heap z TI TO .none) (hTI : IsTupOf3 s.heap TI (.ref i1) (.ref i2) (.ref i3)) (hTO : IsTupOf3 s.heap TO a1 a2 a3) (st1 : St1 i s.heap) (st2 : St2 i s.heap) (st3 : St3 i s.heap) (hlt : i < n)
    (hQ : ∀ x1 x2 x3 h' tk, P1 i x1 → P2 i x2 → P3 i x3 → IsZs h' z TI TO (rawInt s.heap.objs.size) → IsTupOf3 h' TO x1 x2 x3 → St1 (i + 1) h' → St2 (i + 1) h' → St3 (i + 1) h' → IsTupOf3 h' s.heap.objs.size x1 x2 x3 →
      (∀ c o, c ≠ z → c ≠ TO → c ≠ i1 → c ≠ i2 → c ≠ i3 → s.heap.get? c = some o → h'.get? c = some o) → Q (some (.ref s.heap.objs.size)) { s with heap := h', toks := tk }) : wpAny (model prog w) A (pyNext (.ref z)) Q E s := by
  have hT : s.TypeIs (.ref z) "zip" := ⟨_, hz, rfl⟩
  unfold pyNext
  exact wpAny_bind (wpAny_attempt (wpAny_callSpecial?_slot (name := Str.ofString "__next__") hT F.slot_zip_next (wpAny_call_entry F.slot_zip_next hT F.entry_zip_next
      (zs3_item S D1 D2 D3 hz hTI hTO st1 st2 st3 hlt fun x1 x2 x3 h' tk y1 y2 y3 b1 b2 d1 d2 d3 b5 b7 => wpAny_pure (hQ x1 x2 x3 h' tk y1 y2 y3 b1 b2 d1 d2 d3 b5 b7)) (F.args_zip_next_1 _))))
theorem zs3_stop {Q : Option Value → Shared → Prop} (hh : A.handled = none) (S : ZipSep3 z TI TO i1 i2 i3 fp1 fp2 fp3) (D1 : Draws prog w A.in1 i1 fp1 n P1 St1) (D2 : Draws prog w A.in1 i2 fp2 n P2 St2) (D3 : Draws prog w A.in1 i3 fp3 n P3 St3)
    (hz : IsZs s.heap z TI TO .none) (hTI : IsTupOf3 s.heap TI (.ref i1) (.ref i2) (.ref i3)) (hTO : IsTupOf3 s.heap TO a1 a2 a3) (st1 : St1 n s.heap) (st2 : St2 n s.heap) (st3 : St3 n s.heap) (f2 : ∀ h h', St2 n h → (∀ b o, b ≠ i1 → b ≠ z → h.get? b = some o → h'.get? b = some o) → St2 n h') (f3 : ∀ h h', St3 n h → (∀ b o, b ≠ i1 → b ≠ i2 → b ≠ z → h.get? b = some o → h'.get? b = some o) → St3 n h')
    (hQ : ∀ h' tk, (∀ c o, c ≠ z → c ≠ TO → c ≠ i1 → c ≠ i2 → c ≠ i3 → s.heap.get? c = some o → h'.get? c = some o) → Q none { s with heap := h', toks := tk }) : wpAny (model prog w) A (pyNext (.ref z)) Q E s := by
  have hT : s.TypeIs (.ref z) "zip" := ⟨_, hz, rfl⟩
  unfold pyNext
  refine wpAny_bind (wpAny_attempt (wpAny_callSpecial?_slot (name := Str.ofString "__next__") hT F.slot_zip_next (wpAny_call_entry F.slot_zip_next hT F.entry_zip_next
      (zs3_end (A := A.in1) hh S D1 D2 D3 hz hTI hTO st1 st2 st3 f2 f3 fun h' tk e hk he => ?_) (F.args_zip_next_1 _))))
  obtain ⟨o, ho, hc⟩ := he
  exact wpAny_bind (wpAny_isInstance (T := "StopIteration") (b := true) ⟨o, ho, hc⟩ isSubtype_stop (wpAny_pure (hQ _ _ hk)))
theorem walkS3 (hh : A.handled = none) (S : ZipSep3 z TI TO i1 i2 i3 fp1 fp2 fp3) (D1 : Draws prog w A.in1 i1 fp1 n P1 St1) (D2 : Draws prog w A.in1 i2 fp2 n P2 St2) (D3 : Draws prog w A.in1 i3 fp3 n P3 St3) :
    WalksX prog w A z [z, TO, i1, i2, i3] n (fun i vals => ∃ x1 x2 x3, P1 i x1 ∧ P2 i x2 ∧ P3 i x3 ∧ vals = #[x1, x2, x3])
      (fun i h => IsZs h z TI TO .none ∧ IsTupOf3 h TI (.ref i1) (.ref i2) (.ref i3) ∧ (∃ a1 a2 a3, IsTupOf3 h TO a1 a2 a3) ∧ St1 i h ∧ St2 i h ∧ St3 i h)
      (fun i T h => IsZs h z TI TO (rawInt T) ∧ IsTupOf3 h TI (.ref i1) (.ref i2) (.ref i3) ∧ (∃ a1 a2 a3, IsTupOf3 h TO a1 a2 a3) ∧ St1 (i + 1) h ∧ St2 (i + 1) h ∧ St3 (i + 1) h ∧ T ≠ z ∧ T ≠ TO ∧ T ≠ i1 ∧ T ≠ i2 ∧ T ≠ i3) where
  item := fun i s Q E hi hst hQ => by
    obtain ⟨hz, hTI, ⟨a1, a2, a3, hTO⟩, st1, st2, st3⟩ := hst
    refine zs3_next S D1 D2 D3 hz hTI hTO st1 st2 st3 hi fun x1 x2 x3 h' tk y1 y2 y3 b1 b2 d1 d2 d3 b5 hk => ?_
    have lt : ∀ {c o}, s.heap.get? c = some o → s.heap.objs.size ≠ c := fun e => Nat.ne_of_gt (Heap.lt_size e)
    have l1 : s.heap.objs.size ≠ i1 := by obtain ⟨_, e⟩ := D1.live _ _ st1; exact lt e
    have l2 : s.heap.objs.size ≠ i2 := by obtain ⟨_, e⟩ := D2.live _ _ st2; exact lt e
    have l3 : s.heap.objs.size ≠ i3 := by obtain ⟨_, e⟩ := D3.live _ _ st3; exact lt e
    exact hQ s.heap.objs.size #[x1, x2, x3] h' tk ⟨x1, x2, x3, y1, y2, y3, rfl⟩ (Nat.le_refl _) b5 ⟨b1, hk _ _ S.TIz S.TITO S.TIi1 S.TIi2 S.TIi3 hTI, ⟨_, _, _, b2⟩, d1, d2, d3, lt hz, lt hTO, l1, l2, l3⟩
      fun c o hc e => hk c o (fun x => hc (by simp [x])) (fun x => hc (by simp [x])) (fun x => hc (by simp [x])) (fun x => hc (by simp [x])) (fun x => hc (by simp [x])) e
  go := fun elts k pos i T s Q E hm hQ => by
    obtain ⟨hz, hTI, ⟨a1, a2, a3, hTO⟩, st1, st2, st3, _⟩ := hm
    exact zs_letGo hz fun h' hz' hs' => hQ h' ⟨hz', hs'.extBut _ _ S.TIz hTI, ⟨a1, a2, a3, hs'.extBut _ _ S.TOz hTO⟩, D1.over st1 hs' S.zf1, D2.over st2 hs' S.zf2, D3.over st3 hs' S.zf3⟩ fun c o hc e => hs'.extBut _ _ (fun x => hc (by simp [x])) e
  apart := fun i T h hm hT => by
    obtain ⟨_, _, _, _, _, _, tz, tT, t1, t2, t3⟩ := hm
    have hT' : T = z ∨ T = TO ∨ T = i1 ∨ T = i2 ∨ T = i3 := by simpa using hT
    rcases hT' with e | e | e | e | e
    · exact tz e
    · exact tT e
    · exact t1 e
    · exact t2 e
    · exact t3 e
  done := fun s Q E hst hQ => by
    obtain ⟨hz, hTI, ⟨a1, a2, a3, hTO⟩, st1, st2, st3⟩ := hst
    refine zs3_stop hh S D1 D2 D3 hz hTI hTO st1 st2 st3 (fun h h' st k => D2.frame _ _ _ st fun b hb o e => k b o (fun z => S.sep1_2 (z ▸ hb)) (fun z => S.zf2 (z ▸ hb)) e) (fun h h' st k => D3.frame _ _ _ st fun b hb o e => k b o (fun z => S.sep1_3 (z ▸ hb)) (fun z => S.sep2_3 (z ▸ hb)) (fun z => S.zf3 (z ▸ hb)) e) fun h' tk hk => hQ h' tk fun c o hc e => ?_
    exact hk c o (fun x => hc (by simp [x])) (fun x => hc (by simp [x])) (fun x => hc (by simp [x])) (fun x => hc (by simp [x])) (fun x => hc (by simp [x])) e
end
abbrev zZ3 (h : Heap) (o1 o2 o3 : Obj) : Heap := (gzO3 h o1 o2 o3).push { cls := .type "zip", data := .fields #[.none, .bool false, .bool true, .ref (((h.push o1).push o2).push o3).objs.size, .ref (gzT3 h o1 o2 o3).objs.size] }
theorem tc_zip3 (a b c : Value) : checkTypeCall "zip" ⟨[a, b, c], kS⟩ = pure () := by kernel_rfl
theorem nc_zip3 (a b c : Value) : checkBuiltinCall "zip.__new__" ⟨[.type "zip", a, b, c], kS⟩ = pure () := by kernel_rfl
theorem oi_zip3 (obj a b c : Value) : argsOk "object.__init__" ⟨[obj, a, b, c], kS⟩ := by unfold argsOk; kernel_rfl
theorem mk_zs3 {v1 v2 v3 : Value} {o1 o2 o3 : Obj} {H1 H2 H3 : Heap → Prop} (B1 : Begins v1 o1 H1) (B2 : Begins v2 o2 H2) (B3 : Begins v3 o3 H3) :
    Meets (Builtin.«zip.__new__» ⟨[.type "zip", v1, v2, v3], kS⟩) (fun _ R s => (H1 s.heap ∧ H2 s.heap ∧ H3 s.heap) ∧ R (.ok (.ret (.ref (gzO3 s.heap o1 o2 o3).objs.size))) { s with heap := zZ3 s.heap o1 o2 o3 }) :=
  .of_wp fun prog w A R s h => by
    obtain ⟨hp, g, d, tk, os⟩ := s; obtain ⟨⟨h1, h2, h3⟩, h⟩ := h
    have hsub := sub_zip
    have hks : ((Str.ofString "strict" != Str.ofString "strict") : Bool) = false := by decide
    have q1 : ∀ {A' : Around} {E : Value → Shared → Prop} {Q : Value → Shared → Prop}, Q (.ref hp.objs.size) ⟨(hp.push o1), g, d, tk, os⟩ → wpAny (model prog w) A' (pyIter v1) Q E ⟨hp, g, d, tk, os⟩ := fun q => B1.iter prog w _ _ ⟨hp, g, d, tk, os⟩ _ (B1.keeps _ _ h1 fun b o' e => e) q
    have q2 : ∀ {A' : Around} {E : Value → Shared → Prop} {Q : Value → Shared → Prop}, Q (.ref (hp.push o1).objs.size) ⟨((hp.push o1).push o2), g, d, tk, os⟩ → wpAny (model prog w) A' (pyIter v2) Q E ⟨(hp.push o1), g, d, tk, os⟩ := fun q => B2.iter prog w _ _ ⟨(hp.push o1), g, d, tk, os⟩ _ (B2.keeps _ _ h2 fun b o' e => (Heap.get?_push_of_some _ e)) q
    have q3 : ∀ {A' : Around} {E : Value → Shared → Prop} {Q : Value → Shared → Prop}, Q (.ref ((hp.push o1).push o2).objs.size) ⟨(((hp.push o1).push o2).push o3), g, d, tk, os⟩ → wpAny (model prog w) A' (pyIter v3) Q E ⟨((hp.push o1).push o2), g, d, tk, os⟩ := fun q => B3.iter prog w _ _ ⟨((hp.push o1).push o2), g, d, tk, os⟩ _ (B3.keeps _ _ h3 fun b o' e => (Heap.get?_push_of_some _ (Heap.get?_push_of_some _ e))) q
    wp_walk using q1, q2, q3
    exact ⟨_, rfl, h⟩
section
variable {prog : Program} {w : World} {A : Around} {E : Value → Shared → Prop} {s : Shared}
theorem zs3_begins {v1 v2 v3 : Value} {o1 o2 o3 : Obj} {H1 H2 H3 : Heap → Prop} {Q : Value → Shared → Prop} (B1 : Begins v1 o1 H1) (B2 : Begins v2 o2 H2) (B3 : Begins v3 o3 H3) (h1 : H1 s.heap) (h2 : H2 s.heap) (h3 : H3 s.heap)
    (h : ∀ h', IsZs h' (s.heap.objs.size + 5) (s.heap.objs.size + 3) (s.heap.objs.size + 4) .none → IsTupOf3 h' (s.heap.objs.size + 3) (.ref s.heap.objs.size) (.ref (s.heap.objs.size + 1)) (.ref (s.heap.objs.size + 2)) → IsTupOf3 h' (s.heap.objs.size + 4) .none .none .none →
      h'.get? s.heap.objs.size = some o1 → h'.get? (s.heap.objs.size + 1) = some o2 → h'.get? (s.heap.objs.size + 2) = some o3 → (∀ c o, s.heap.get? c = some o → h'.get? c = some o) → Q (.ref (s.heap.objs.size + 5)) { s with heap := h' }) :
    wpAny (model prog w) A (call (.type "zip") [v1, v2, v3] kS) Q E s := by
  refine callType_newKw F.called_zip (by decide) (tc_zip3 _ _ _) (nc_zip3 _ _ _) (fun obj => oi_zip3 obj _ _ _) F.entry_zip_new (mk_zs3 B1 B2 B3) ⟨⟨h1, h2, h3⟩, ?_⟩
  have z1 : (s.heap.push o1).objs.size = s.heap.objs.size + 1 := by rw [Heap.size_push]
  have z2 : ((s.heap.push o1).push o2).objs.size = s.heap.objs.size + 2 := by rw [Heap.size_push, z1]
  have z3 : (((s.heap.push o1).push o2).push o3).objs.size = s.heap.objs.size + 3 := by rw [Heap.size_push, z2]
  have zT : (gzT3 s.heap o1 o2 o3).objs.size = s.heap.objs.size + 4 := by rw [Heap.size_push, z3]
  have zO : (gzO3 s.heap o1 o2 o3).objs.size = s.heap.objs.size + 5 := by rw [Heap.size_push, zT]
  have up1 : ∀ {c o}, (gzO3 s.heap o1 o2 o3).get? c = some o → (zZ3 s.heap o1 o2 o3).get? c = some o := fun e => Heap.get?_push_of_some _ e
  have up3 : ∀ {c o}, (((s.heap.push o1).push o2).push o3).get? c = some o → (zZ3 s.heap o1 o2 o3).get? c = some o := fun e => up1 (Heap.get?_push_of_some _ (Heap.get?_push_of_some _ e))
  have gZ : (zZ3 s.heap o1 o2 o3).get? (gzO3 s.heap o1 o2 o3).objs.size = some { cls := .type "zip", data := .fields #[.none, .bool false, .bool true, .ref (((s.heap.push o1).push o2).push o3).objs.size, .ref (gzT3 s.heap o1 o2 o3).objs.size] } := Heap.get?_push_size _ rfl
  have gO : (zZ3 s.heap o1 o2 o3).get? (gzT3 s.heap o1 o2 o3).objs.size = some { cls := .type "tuple", data := .seq #[.none, .none, .none] } := up1 (Heap.get?_push_size _ rfl)
  have gT : (zZ3 s.heap o1 o2 o3).get? (((s.heap.push o1).push o2).push o3).objs.size = some { cls := .type "tuple", data := .seq #[.ref s.heap.objs.size, .ref (s.heap.push o1).objs.size, .ref ((s.heap.push o1).push o2).objs.size] } := up1 (Heap.get?_push_of_some _ (Heap.get?_push_size _ rfl))
  have g1 : (zZ3 s.heap o1 o2 o3).get? s.heap.objs.size = some o1 := up3 (Heap.get?_push_of_some _ (Heap.get?_push_of_some _ (Heap.get?_push_size _ B1.free)))
  have g2 : (zZ3 s.heap o1 o2 o3).get? (s.heap.push o1).objs.size = some o2 := up3 (Heap.get?_push_of_some _ (Heap.get?_push_size _ B2.free))
  have g3 : (zZ3 s.heap o1 o2 o3).get? ((s.heap.push o1).push o2).objs.size = some o3 := up3 (Heap.get?_push_size _ B3.free)
  rw [zO, zT, z3] at gZ; rw [zT] at gO; rw [z3, z2, z1] at gT; rw [z1] at g2; rw [z2] at g3
  show _ ∧ _; rw [zO]
  exact ⟨⟨_, gZ, rfl⟩, h _ gZ gT gO g1 g2 g3 fun c o e => up3 (Heap.get?_push_of_some _ (Heap.get?_push_of_some _ (Heap.get?_push_of_some _ e)))⟩
end
end DL.Zs
set_option Elab.async false
set_option linter.all false
set_option maxRecDepth 100000
set_option maxHeartbeats 1000000
/-! DLG: a def's promise where no repr runs around it; the law's own call. -/
namespace DL
open PySem PySem.Spec L2
open PyProof.Rows hiding St

/-- as FnOk, where no guard of a repr stands around -/
structure FnG (pr : Program) (w : World) (K : PySem.W.Frag) (mg : Str → Option Value) (base : Heap) (k : Nat) (f : Addr) (fd : FuncData) (ps : List Str) (sp : Sp) : Prop where
  arity : ∀ xs G Φ Ψ, sp xs G Φ Ψ → xs.length = ps.length
  go : ∀ (A : Around) (fr : List Env) (sh : Shared) (G : Hp) (args : Args) (us : List Value) (xs : List V) (Φ : VK), A.guards = some [] → Room k A → Env0 pr w K mg base A fr sh G → BindsTo sh fd args (ps.zip us) → Vals xs us → sp xs G Φ E0 →
    codeAny (model pr w) A (.call (.ref f) args) (CR CX0 fr pr w G sh Φ E0) sh
/-- the frame's end, from the body's -/
theorem fr_end {pr : Program} {w : World} {K : PySem.W.Frag} {mg : Str → Option Value} {base : Heap} {N : List Str} {qual : Str} {sc : Scope} {f : Addr} {cd : Value} {A : Around} {fr : List Env} {sh sh' : Shared} {G G' : Hp} {Ψ : XK} {τ : St} {y : V} {u : Value} {Φ : VK}
    (J : Inv (cxOf CX0 pr w K mg base N qual sc f cd A fr sh G Ψ) [] τ G' sh') (ry : RelV y u) (q : Φ y G') : CE fr pr w G sh Φ u sh' := ⟨y, G', J.os, J.bare, J.base, J.hok, ry, q⟩
theorem fnG_of {pr : Program} {w : World} {K : PySem.W.Frag} {mg : Str → Option Value} {base : Heap} {k : Nat} {f : Addr} {x qual : Str} {st : Stmt} {fd : FuncData} {N ps : List Str} {sp : Sp} (Fu : Fun K x qual st f fd) (Sc : FnScope N ps (defScope st))
    (arity : ∀ xs G Φ Ψ, sp xs G Φ Ψ → xs.length = ps.length)
    (body : ∀ (cd : Value) (A : Around) (fr : List Env) (sh : Shared) (G : Hp) (xs : List V) (Φ : VK), A.guards = some [] → Room k (A.deeper (envOfC qual (defScope st) sh.heap.objs.size f cd)) → sp xs G Φ E0 →
      ∃ t, PSs (cxOf CX0 pr w K mg base N qual (defScope st) f cd A fr sh G E0).nox (defBody st) t ∧ t { nx := fun _ G' => Φ .non G', rt := Φ } (start N xs) G) : FnG pr w K mg base (k + 1) f fd ps sp := by
  obtain ⟨oc, od, kV, doc, pm, an, cd, ct, osl, efd, lk, hcode⟩ := Fu.ex
  subst efd
  refine ⟨arity, fun A fr sh G args us xs Φ hgu hroom e0 hbind rv hsp => ?_⟩
  have har := arity _ _ _ _ hsp
  have kin : K.In sh.heap := e0.mod.kin.keeps (fun b o e => (e0.bs b o e).1)
  have kinds : ∀ y ∈ ps.zip us, (defScope st).names.lookup y.1 = some .local ∨ ((defScope st).names.lookup y.1 = some .cell ∧ ((cellsFrom (sh.heap.objs.size + 1) (defScope st).names []).lookup y.1).isSome = true) := by
    rintro ⟨n, v⟩ hy
    have hn : n ∈ ps := (List.of_mem_zip hy).1
    exact (Sc.par n hn).imp id fun q => ⟨q, PySem.W.cellsFrom_some _ _ _ (.inl q)⟩
  have hrec := PySem.W.codeRec_of kin hcode
  refine codeAny_call_function hroom.depth (kin _ _ lk) rfl Sc.co Sc.gen rfl hrec (hbind _ _ _ _ ?_)
  refine wpAny_newFunctionEnv_cells Sc.kind kinds (fun env he sh1 ic => ?_)
  subst he
  refine ⟨(e0.mod.nolimit.keeps (fun b o e => (e0.bs b o e).1)).keeps ic.toInCall.keep, codeAny_func ?_⟩
  obtain ⟨t, ht, hq⟩ := body cd A fr sh G xs Φ hgu (hroom.deeper _) hsp
  have J0 : Inv (cxOf CX0 pr w K mg base N qual (defScope st) f cd A fr sh G E0) [] (start N xs) G sh1 := inv_start Sc hroom.hd e0 har rv ic
  refine wpAny_mono (ht.nox.run [] sh1 (start N xs) G _ J0 hq) (fun fl sh2 res => ?_) (fun e sh2 res => res)
  cases fl with
  | next => obtain ⟨τ, G', J, q⟩ := res; exact fr_end (y := V.non) (u := Value.none) J rfl q
  | ret u => obtain ⟨y, τ, G', J, ry, q⟩ := res; exact fr_end J ry q
  | brk => obtain ⟨_, _, _, q⟩ := res; exact q.elim
  | cont => obtain ⟨_, _, _, q⟩ := res; exact q.elim
/-- the callee runs -/
theorem runG {X : Cx} {k : Nat} {f : Addr} {fd : FuncData} {ps : List Str} {sp : Sp} {pins : List (Addr × Obj)} {τ : St} {G : Hp} {sh : Shared} {Φ : VK} {us : List Value} {xs : List V} (Fn : FnG X.prog X.w X.K X.mg X.base k f fd ps sp) (hgu : X.A.guards = some []) (hroom : Room k X.A) (hbind : Binds X.K fd ps [])
    (I : Inv X pins τ G sh) (rv : Vals xs us) (h : sp xs G Φ E0) : wpAny (model X.prog X.w) X.A (call (.ref f) us) (EP X pins τ Φ) X.xe sh := by
  have hl : (us ++ []).length = ps.length := by rw [List.append_nil, ← rv.length]; exact Fn.arity _ _ _ _ h
  have hb := hbind sh us I.kIn hl
  rw [List.append_nil] at hb
  refine wpAny_call (codeAny_mono (Fn.go X.A X.stack sh G ⟨us, []⟩ us xs Φ hgu hroom I.env0 hb rv h) fun r sh' res => ?_)
  match r, res with
  | .error e, res => exact False.elim res
  | .ok .next, res => exact False.elim res
  | .ok .brk, res => exact False.elim res
  | .ok .cont, res => exact False.elim res
  | .ok (.ret u), res => exact I.after res
theorem peG_call {X : Cx} {k : Nat} {f : Addr} {fd : FuncData} {ps : List Str} {sp : Sp} {x : Str} {p pos : Pos} {e : Expr} {es : List Expr} {t : TA} (Fn : FnG X.prog X.w X.K X.mg X.base k f fd ps sp) (hgu : X.A.guards = some []) (hroom : Room k X.A) (hg : Gl X x) (hm : X.mg x = some (.ref f)) (hk : PySem.W.keepIn X.K (.ref f) = true) (hbind : Binds X.K fd ps [])
    (ha : PA X (e :: es) t) (hdb : (x == ("__debug__" : Str)) = false) (he : starEach (e :: es) X.env = (false, eval e X.env) :: starEach es X.env) (hpl : (backTo pos (starEach es X.env)).any (·.1) = false) :
    PE X (.Call (.Name x p) (e :: es) [] pos) (fun τ G Φ => t τ G fun xs G1 => sp xs G1 Φ E0) :=
  ⟨fun pins sh τ G Φ I h => wpAny_Call_Name_kw (ld_glob I hg hm (PySem.W.callWith_K (h₀ := X.base) I.ok.mod.kin hk (thn (ha.run pos pins sh τ G _ I h) fun us sh1 ⟨xs, G1, I1, rv, q⟩ => ⟨I1.kIn, runG Fn hgu hroom hbind I1 rv q⟩) he hpl) hdb)⟩

/-! ### the law's own call -/
/-- the script's list, known to the object -/
def scrH (a : Addr) (vs : List Value) (ns : List Int) : Hp := fun b => if b = a then some (.frz { cls := .type "list", data := .seq vs.toArray } (.lst (ns.map V.int))) else none
section
variable {pr : Program} {w : World} {K : PySem.W.Frag} {mg mb : Str → Option Value} {k : Nat} {fa a : Addr} {fd : FuncData} {x : Str} {sp : Sp} {sh : Shared} {vs : List Value} {ns : List Int}
theorem law_from (G : Hp) (hG : ∀ b u, G b = some u → b = a ∧ u = .frz { cls := .type "list", data := .seq vs.toArray } (.lst (ns.map V.int))) (hKa : G a ≠ none → K.lookup a = none)
    (kin : K.In sh.heap) (hns : sh.heap.Ns mainGlobals mg) (hb : sh.heap.Ns builtinsNs mb) (hbb : ∀ y : Str, y ≠ "__name__" → mb y = bootBuiltins y) (hlim : sh.heap.NoLimit) (hgens : sh.gens = #[])
    (ha : sh.heap.get? a = some { cls := .type "list", data := .seq vs.toArray }) (hok : HOk pr w G sh.heap) (hroom : Room k callerA)
    (Fn : ∀ base : Heap, K.In base → base.Ns mainGlobals mg → FnG pr w K mg base k fa fd [x] sp) (hbind : ∀ (s : Shared) (u : Value), BindsTo s fd ⟨[u], []⟩ [(x, u)])
    (hsp : sp [.ref a] G (fun v _ => v = .bl true) E0) :
    codeAny (model pr w) callerA (.call (.ref fa) ⟨[.ref a], []⟩) (fun r s' => r = .ok (.ret (.bool true)) ∧ OldK sh.heap s'.heap ∧ s'.os = sh.os ∧ AllBare s'.gens) sh := by
  have dnone : ∀ {b : Addr} {o : Obj} {es : Array DictEntry} {ep : Nat}, sh.heap.get? b = some o → o.data = .dict es ep → G b = none := by
    intro b o es ep e d
    cases q : G b with
    | none => rfl
    | some u =>
      obtain ⟨z, _⟩ := hG b u q
      rw [z, ha] at e
      cases e
      cases d
  have lift : ∀ {b : Addr} {m : Str → Option Value}, sh.heap.Ns b m → (hidT sh.heap G).Ns b m := by
    rintro b m ⟨o, es, ep, e, d, r⟩
    exact ⟨o, es, ep, hidT_get e (dnone e d), d, r⟩
  have kinB : K.In (hidT sh.heap G) := by
    intro b o e
    refine hidT_get (kin b o e) ?_
    cases q : G b with
    | none => rfl
    | some u =>
      obtain ⟨z, _⟩ := hG b u q
      subst z
      rw [hKa (by rw [q]; exact fun z => nomatch z)] at e
      cases e
  have md : Mod K mg (hidT sh.heap G) := ⟨kinB, lift hns, ⟨mb, lift hb, hbb⟩, by obtain ⟨mc, h1, h2⟩ := hlim; exact ⟨mc, lift h1, h2⟩⟩
  have e0 : Env0 pr w K mg (hidT sh.heap G) callerA [] sh G := by
    refine ⟨rfl, md, fun b o e => of_hidT e, Nat.le_of_eq (hidT_size _ _), trivial, fun b hb => ?_, hok, .of_eq hgens⟩
    cases (show b ∈ ([] : List Addr) from hb)
  refine codeAny_mono ((Fn _ kinB (lift hns)).go callerA [] sh G ⟨[.ref a], []⟩ [.ref a] [.ref a] _ rfl hroom e0 (hbind sh (.ref a)) (.cons rfl .nil) hsp) (fun r s' h => ?_)
  match r, h with
  | .error e, h => exact False.elim h
  | .ok .next, h => exact False.elim h
  | .ok .brk, h => exact False.elim h
  | .ok .cont, h => exact False.elim h
  | .ok (.ret u), h =>
    obtain ⟨v, G', os, bare, un, hok', rv, q⟩ := h
    have q : v = .bl true := q
    subst q
    have eu : u = Value.bool true := rv
    subst eu
    refine ⟨rfl, OldK.of_keep (fun b o e => ?_), os, bare⟩
    cases z : G b with
    | none => exact un.keep b o e z (fun m => by cases (show b ∈ ([] : List Addr) from m)) (fun m => by cases m)
    | some u =>
      obtain ⟨z1, z2⟩ := hG b u z
      subst z1 z2
      have z' := un.frzs b _ _ z
      obtain ⟨f1, _⟩ := hok b _ z
      obtain ⟨f2, _⟩ := hok' b _ z'
      rw [e] at f1
      cases f1
      exact f2
theorem lawG (kin : K.In sh.heap) (hns : sh.heap.Ns mainGlobals mg) (hb : sh.heap.Ns builtinsNs mb) (hbb : ∀ y : Str, y ≠ "__name__" → mb y = bootBuiltins y) (hlim : sh.heap.NoLimit) (hgens : sh.gens = #[])
    (ha : sh.heap.get? a = some { cls := .type "list", data := .seq vs.toArray }) (hi : IntsAre vs ns) (hl : ns.length ≤ sizeLine) (hroom : Room k callerA)
    (Fn : ∀ base : Heap, K.In base → base.Ns mainGlobals mg → FnG pr w K mg base k fa fd [x] sp) (hbind : ∀ (s : Shared) (u : Value), BindsTo s fd ⟨[u], []⟩ [(x, u)])
    (hsp : ∀ G : Hp, Only G → SqL K G a (ns.map V.int) → sp [.ref a] G (fun v _ => v = .bl true) E0) :
    codeAny (model pr w) callerA (.call (.ref fa) ⟨[.ref a], []⟩) (fun r s' => r = .ok (.ret (.bool true)) ∧ OldK sh.heap s'.heap ∧ s'.os = sh.os ∧ AllBare s'.gens) sh := by
  have rv := vals_of_ints hi
  cases hk : K.lookup a with
  | none =>
    have eq1 : ∀ b u, scrH a vs ns b = some u → b = a ∧ u = .frz { cls := .type "list", data := .seq vs.toArray } (.lst (ns.map V.int)) := by
      intro b u e
      unfold scrH at e
      by_cases z : b = a
      · rw [if_pos z] at e
        exact ⟨z, (Option.some.inj e).symm⟩
      · rw [if_neg z] at e
        cases e
    have self : scrH a vs ns a = some (.frz { cls := .type "list", data := .seq vs.toArray } (.lst (ns.map V.int))) := if_pos rfl
    refine law_from (scrH a vs ns) eq1 (fun _ => hk) kin hns hb hbb hlim hgens ha (fun b u e => ?_) hroom Fn hbind (hsp _ (fun b => ?_) (.inl (.inr ⟨_, self⟩)))
    · obtain ⟨z1, z2⟩ := eq1 b u e
      subst z1 z2
      exact ⟨ha, by rw [List.length_map]; exact hl, vs, _, rv, ha⟩
    · by_cases z : b = a
      · rw [z]; exact .inr ⟨_, _, self⟩
      · exact .inl (if_neg z)
  | some o =>
    have e := kin a o hk
    rw [ha] at e
    cases e
    refine law_from (ns := ns) (fun _ => none) (fun b u e => by cases e) (fun z => absurd rfl z) kin hns hb hbb hlim hgens ha (fun b u e => by cases e) hroom Fn hbind (hsp _ (fun _ => .inl rfl) (.inr ⟨_, vs.toArray, _, hk, rfl, rfl, rfl, ?_, by simpa using rv⟩))
    rw [List.size_toArray, hi.length]
    exact hl
end
end DL
set_option Elab.async false
set_option linter.all false
set_option maxRecDepth 100000
set_option maxHeartbeats 1000000
/-! DL0: plain data over the hand layer's abstract heap; what a def's names hold (RepS). -/
namespace DL
open PySem PySem.Spec L2
open PyProof.Rows hiding St

abbrev D := PyData

/-! ### how a tuple stands in the abstract heap: told exactly (z), or by its items -/
class Zm where
  z : Bool
def tupO (z : Bool) (o : Obj) (xs : List V) : HO := match z with
  | false => .tup xs
  | true => .frz o (.tup xs)
def TupAt (z : Bool) (G : Hp) (a : Addr) (xs : List V) : Prop := match z with
  | false => G a = some (.tup xs)
  | true => ∃ o : Obj, G a = some (.frz o (.tup xs)) ∧ o.dict = none
theorem TupAt.ne {z : Bool} {G : Hp} {a : Addr} {xs : List V} (h : TupAt z G a xs) : ∃ u, G a = some u := by
  cases z with
  | false => exact ⟨_, h⟩
  | true => obtain ⟨o, e, _⟩ := h; exact ⟨_, e⟩
theorem TupAt.at {z : Bool} {G G' : Hp} {a : Addr} {xs : List V} (h : TupAt z G a xs) (k : ∀ u, G a = some u → G' a = some u) : TupAt z G' a xs := by
  cases z with
  | false => exact k _ h
  | true => obtain ⟨o, e, d⟩ := h; exact ⟨o, k _ e, d⟩
theorem TupAt.sq {z : Bool} {K : PySem.W.Frag} {G : Hp} {a : Addr} {xs : List V} (h : TupAt z G a xs) : SqT K G a xs := by
  cases z with
  | false => exact .inl (.inl h)
  | true => obtain ⟨o, e, _⟩ := h; exact .inl (.inr ⟨o, e⟩)
theorem tupAt_new {z : Bool} {H : Hp} {p : Addr} {o : Obj} {xs : List V} (hd : o.dict = none) : TupAt z (upd H p (tupO z o xs)) p xs := by
  cases z with
  | false => exact upd_same
  | true => exact ⟨o, upd_same, hd⟩
theorem tupO_ok {P : Program} {w : World} {z : Bool} {H : Hp} {h : Heap} {a : Addr} {o : Obj} {xs : List V} {its : List Value} {n : Nat} (e : h.get? a = some o) (hc : o.cls = .type "tuple") (hd : o.data = .seq its.toArray n) (r : Vals xs its) (hz : xs.length ≤ sizeLine) : ObjOk P w H h a (tupO z o xs) := by
  have t : ObjOk P w H h a (.tup xs) := ⟨hz, its, r, ⟨o, e, hc, n, hd⟩⟩
  cases z with
  | false => exact t
  | true => exact ⟨e, t⟩
variable [Zm]

/-- the heap without what is owned -/
def fz (O : List Addr) (H : Hp) : Hp := fun a => if a ∈ O then none else H a
theorem fz_iff {O : List Addr} {H : Hp} {a : Addr} {o : HO} : fz O H a = some o ↔ a ∉ O ∧ H a = some o := by
  unfold fz
  by_cases h : a ∈ O
  · rw [if_pos h]; constructor
    · intro z; cases z
    · intro z; exact absurd h z.1
  · rw [if_neg h]; exact ⟨fun z => ⟨h, z⟩, fun z => z.2⟩
abbrev Dom (O : List Addr) (H : Hp) : Prop := ∀ b ∈ O, H b ≠ none
theorem fz_same {O : List Addr} {H H' : Hp} (h : Same H H') : Same (fz O H) (fz O H') := fun b o e => by
  obtain ⟨n, e⟩ := fz_iff.mp e
  exact fz_iff.mpr ⟨n, h b o e⟩
theorem fz_le {O : List Addr} {H : Hp} : Same (fz O H) H := fun b o e => (fz_iff.mp e).2
theorem fz_mono {O O' : List Addr} {H : Hp} (h : ∀ b ∈ O', b ∈ O) : Same (fz O H) (fz O' H) := fun b o e => by
  obtain ⟨n, e⟩ := fz_iff.mp e
  exact fz_iff.mpr ⟨fun z => n (h b z), e⟩
theorem TupAt.le {z : Bool} {O : List Addr} {H : Hp} {a : Addr} {xs : List V} (h : TupAt z (fz O H) a xs) : TupAt z H a xs := h.at fun u e => (fz_iff.mp e).2
theorem tupAt_fz {z : Bool} {O : List Addr} {H : Hp} {p : Addr} {o : Obj} {xs : List V} (hn : p ∉ O) (hd : o.dict = none) : TupAt z (fz O (upd H p (tupO z o xs))) p xs := (tupAt_new hd).at fun u e => fz_iff.mpr ⟨hn, e⟩
theorem same_upd {H : Hp} {p : Addr} {o : HO} (h : H p = none) : Same H (upd H p o) := fun b u e => by
  rw [upd_ne (ne_of_none e h)]; exact e
theorem Dom.same {O : List Addr} {H H' : Hp} (d : Dom O H) (h : Same H H') : Dom O H' := fun b hb e => by
  cases q : H b with
  | none => exact d b hb q
  | some o => rw [h b o q] at e; cases e
theorem Dom.ne {O : List Addr} {H : Hp} {p : Addr} (d : Dom O H) (h : H p = none) : p ∉ O := fun z => d p z h
theorem Same.sqT {K : PySem.W.Frag} {H H' : Hp} {a : Addr} {xs : List V} (e : Same H H') (h : SqT K H a xs) : SqT K H' a xs := by
  rcases h with (h | ⟨o, h⟩) | h
  · exact .inl (.inl (e _ _ h))
  · exact .inl (.inr ⟨o, e _ _ h⟩)
  · exact .inr h
theorem Same.rd {H H' : Hp} {a : Addr} {u : HO} (e : Same H H') (h : Rd H a u) : Rd H' a u := by
  rcases h with h | ⟨o, h⟩
  · exact .inl (e _ _ h)
  · exact .inr ⟨o, e _ _ h⟩

def encK : Key → D
  | .inl i => .int i
  | .inr x => .str x
def encT (ks : List Key) : D := .tuple (ks.map encK)

mutual
/-- the value v stands for the data d -/
inductive Rp (K : PySem.W.Frag) (G : Hp) : V → D → Prop
  | non : Rp K G .non .none
  | bl (b : Bool) : Rp K G (.bl b) (.bool b)
  | int (i : Int) : Rp K G (.int i) (.int i)
  | str (x : Str) : Rp K G (.str x) (.str x)
  | lst {a : Addr} {xs : List V} {ds : List D} : G a = some (.lst xs) → RpA K G xs ds → Rp K G (.ref a) (.list ds)
  | tup {a : Addr} {xs : List V} {ds : List D} : TupAt Zm.z G a xs → RpA K G xs ds → Rp K G (.ref a) (.tuple ds)
  | dK {a : Addr} {kvs : List (Key × V)} {ds : List D} : G a = some (.dK kvs) → RpA K G (kvs.map (·.2)) ds → Rp K G (.ref a) (.dict ((kvs.map fun p => encK p.1).zip ds))
  | dT {a : Addr} {kvs : List (List Key × V)} {ds : List D} : G a = some (.dT kvs) → kvs ≠ [] → RpA K G (kvs.map (·.2)) ds → Rp K G (.ref a) (.dict ((kvs.map fun p => encT p.1).zip ds))
inductive RpA (K : PySem.W.Frag) (G : Hp) : List V → List D → Prop
  | nil : RpA K G [] []
  | cons {v : V} {vs : List V} {d : D} {ds : List D} : Rp K G v d → RpA K G vs ds → RpA K G (v :: vs) (d :: ds)
end
section
variable {K : PySem.W.Frag} {G G' : Hp}
mutual
theorem Rp.mono (h : Same G G') : ∀ {v : V} {d : D}, Rp K G v d → Rp K G' v d
  | _, _, .non => .non
  | _, _, .bl b => .bl b
  | _, _, .int i => .int i
  | _, _, .str x => .str x
  | _, _, .lst s r => .lst (h _ _ s) (RpA.mono h r)
  | _, _, .tup s r => .tup (s.at fun u e => h _ u e) (RpA.mono h r)
  | _, _, .dK s r => .dK (h _ _ s) (RpA.mono h r)
  | _, _, .dT s n r => .dT (h _ _ s) n (RpA.mono h r)
theorem RpA.mono (h : Same G G') : ∀ {vs : List V} {ds : List D}, RpA K G vs ds → RpA K G' vs ds
  | _, _, .nil => .nil
  | _, _, .cons a b => .cons (Rp.mono h a) (RpA.mono h b)
end
theorem RpA.len : ∀ {vs : List V} {ds : List D}, RpA K G vs ds → vs.length = ds.length
  | _, _, .nil => rfl
  | _, _, .cons _ b => congrArg (· + 1) (RpA.len b)
theorem RpA.app : ∀ {vs ws : List V} {ds es : List D}, RpA K G vs ds → RpA K G ws es → RpA K G (vs ++ ws) (ds ++ es)
  | _, _, _, _, .nil, s => s
  | _, _, _, _, .cons a b, s => .cons a (RpA.app b s)
theorem RpA.get : ∀ {vs : List V} {ds : List D} {i : Nat} {d : D}, RpA K G vs ds → ds[i]? = some d → ∃ v, vs[i]? = some v ∧ Rp K G v d
  | _, _, _, _, .nil, e => by simp at e
  | _, _, 0, _, .cons a _, e => by simp at e; subst e; exact ⟨_, rfl, a⟩
  | _, _, i + 1, d, .cons _ b, e => by
    obtain ⟨v, h1, h2⟩ := RpA.get (i := i) (d := d) b (by simpa using e)
    exact ⟨v, by simpa using h1, h2⟩
theorem RpA.get' : ∀ {vs : List V} {ds : List D} {i : Nat} {v : V}, RpA K G vs ds → vs[i]? = some v → ∃ d, ds[i]? = some d ∧ Rp K G v d
  | _, _, _, _, .nil, e => by simp at e
  | _, _, 0, _, .cons a _, e => by simp at e; subst e; exact ⟨_, rfl, a⟩
  | _, _, i + 1, v, .cons _ b, e => by
    obtain ⟨d, h1, h2⟩ := RpA.get' (i := i) (v := v) b (by simpa using e)
    exact ⟨d, by simpa using h1, h2⟩
theorem RpA.take : ∀ {vs : List V} {ds : List D} (n : Nat), RpA K G vs ds → RpA K G (vs.take n) (ds.take n)
  | _, _, 0, _ => .nil
  | _, _, _ + 1, .nil => .nil
  | _, _, n + 1, .cons a b => .cons a (RpA.take n b)
theorem RpA.drop : ∀ {vs : List V} {ds : List D} (n : Nat), RpA K G vs ds → RpA K G (vs.drop n) (ds.drop n)
  | _, _, 0, h => h
  | _, _, _ + 1, .nil => .nil
  | _, _, n + 1, .cons _ b => RpA.drop n b
theorem RpA.set {v : V} {d : D} (r : Rp K G v d) : ∀ {vs : List V} {ds : List D} (n : Nat), RpA K G vs ds → RpA K G (vs.set n v) (ds.set n d)
  | _, _, _, .nil => .nil
  | _, _, 0, .cons _ b => .cons r b
  | _, _, n + 1, .cons a b => .cons a (RpA.set r n b)
theorem RpA.eraseIdx : ∀ {vs : List V} {ds : List D} (n : Nat), RpA K G vs ds → RpA K G (vs.eraseIdx n) (ds.eraseIdx n)
  | _, _, _, .nil => .nil
  | _, _, 0, .cons _ b => b
  | _, _, n + 1, .cons a b => .cons a (RpA.eraseIdx n b)
theorem RpA.rev : ∀ {vs : List V} {ds : List D}, RpA K G vs ds → RpA K G vs.reverse ds.reverse
  | _, _, .nil => .nil
  | _, _, .cons a b => by rw [List.reverse_cons, List.reverse_cons]; exact RpA.app (RpA.rev b) (.cons a .nil)
theorem RpA.of_fn {vs : List V} {ds : List D} (hl : vs.length = ds.length) (h : ∀ (i : Nat) v d, vs[i]? = some v → ds[i]? = some d → Rp K G v d) : RpA K G vs ds := by
  induction vs generalizing ds with
  | nil => cases ds with
    | nil => exact .nil
    | cons _ _ => simp at hl
  | cons v vs ih => cases ds with
    | nil => simp at hl
    | cons d ds => exact .cons (h 0 v d rfl rfl) (ih (by simpa using hl) fun i v' d' a b => h (i + 1) v' d' (by simpa using a) (by simpa using b))
end

/-- the value stands for the data, its top perhaps owned -/
inductive Rp1 (K : PySem.W.Frag) (O : List Addr) (H : Hp) : V → D → Prop
  | of {v : V} {d : D} : Rp K (fz O H) v d → Rp1 K O H v d
  | lst {a : Addr} {xs : List V} {ds : List D} : H a = some (.lst xs) → RpA K (fz O H) xs ds → Rp1 K O H (.ref a) (.list ds)
  | dK {a : Addr} {kvs : List (Key × V)} {ds : List D} : H a = some (.dK kvs) → RpA K (fz O H) (kvs.map (·.2)) ds → Rp1 K O H (.ref a) (.dict ((kvs.map fun p => encK p.1).zip ds))
  | dT {a : Addr} {kvs : List (List Key × V)} {ds : List D} : H a = some (.dT kvs) → kvs ≠ [] → RpA K (fz O H) (kvs.map (·.2)) ds → Rp1 K O H (.ref a) (.dict ((kvs.map fun p => encT p.1).zip ds))
section
variable {K : PySem.W.Frag} {O : List Addr} {H : Hp} {v : V} {G : Hp}
theorem Rp.int_inv {i : Int} (h : Rp K G v (.int i)) : v = .int i := by cases h; rfl
theorem Rp.bl_inv {b : Bool} (h : Rp K G v (.bool b)) : v = .bl b := by cases h; rfl
theorem Rp.non_inv (h : Rp K G v .none) : v = .non := by cases h; rfl
theorem Rp.str_inv {x : Str} (h : Rp K G v (.str x)) : v = .str x := by cases h; rfl
theorem Rp1.int_inv {i : Int} (h : Rp1 K O H v (.int i)) : v = .int i := by cases h with | of h => exact h.int_inv
theorem Rp1.bl_inv {b : Bool} (h : Rp1 K O H v (.bool b)) : v = .bl b := by cases h with | of h => exact h.bl_inv
theorem Rp1.non_inv (h : Rp1 K O H v .none) : v = .non := by cases h with | of h => exact h.non_inv
theorem Rp1.str_inv {x : Str} (h : Rp1 K O H v (.str x)) : v = .str x := by cases h with | of h => exact h.str_inv
theorem Rp1.list_inv {ds : List D} (h : Rp1 K O H v (.list ds)) : ∃ a xs, v = .ref a ∧ H a = some (.lst xs) ∧ RpA K (fz O H) xs ds := by
  cases h with
  | of h => cases h with | lst s r => exact ⟨_, _, rfl, fz_le _ _ s, r⟩
  | lst s r => exact ⟨_, _, rfl, s, r⟩
theorem Rp1.tup_inv {ds : List D} (h : Rp1 K O H v (.tuple ds)) : ∃ a xs, v = .ref a ∧ TupAt Zm.z (fz O H) a xs ∧ RpA K (fz O H) xs ds := by
  cases h with
  | of h => cases h with | tup s r => exact ⟨_, _, rfl, s, r⟩
theorem Rp.list_inv {ds : List D} (h : Rp K G v (.list ds)) : ∃ a xs, v = .ref a ∧ G a = some (.lst xs) ∧ RpA K G xs ds := by
  cases h with | lst s r => exact ⟨_, _, rfl, s, r⟩
theorem Rp.tup_inv {ds : List D} (h : Rp K G v (.tuple ds)) : ∃ a xs, v = .ref a ∧ TupAt Zm.z G a xs ∧ RpA K G xs ds := by
  cases h with | tup s r => exact ⟨_, _, rfl, s, r⟩
theorem RpA.ints {vs : List V} {ns : List Int} (h : RpA K G vs (ns.map PyData.int)) : vs = ns.map V.int := by
  induction ns generalizing vs with
  | nil => cases h; rfl
  | cons n ns ih =>
    cases h with
    | cons a b => rw [a.int_inv, ih b]; rfl
theorem RpA.of_ints (ns : List Int) : RpA K G (ns.map V.int) (ns.map PyData.int) := by
  induction ns with
  | nil => exact .nil
  | cons n ns ih => exact .cons (.int n) ih
theorem RpA.bools {vs : List V} {ns : List Bool} (h : RpA K G vs (ns.map PyData.bool)) : vs = ns.map V.bl := by
  induction ns generalizing vs with
  | nil => cases h; rfl
  | cons n ns ih =>
    cases h with
    | cons a b => rw [a.bl_inv, ih b]; rfl
theorem Rp1.mono {H' : Hp} {d : D} (h : Same H H') (r : Rp1 K O H v d) : Rp1 K O H' v d := by
  cases r with
  | of r => exact .of (r.mono (fz_same h))
  | lst s r => exact .lst (h _ _ s) (r.mono (fz_same h))
  | dK s r => exact .dK (h _ _ s) (r.mono (fz_same h))
  | dT s n r => exact .dT (h _ _ s) n (r.mono (fz_same h))
end

/-! ### what the names of a frame hold -/
structure Src where
  cells : List Int
  left : Int
  mixed : Int
  turn : Int
def srcKv (ca : Addr) (s : Src) : List (Key × V) := [(.inr "cells", .ref ca), (.inr "left", .int s.left), (.inr "mixed", .int s.mixed), (.inr "turn", .int s.turn)]
def SrcAt (H : Hp) (sa ca : Addr) (s : Src) : Prop := H sa = some (.dK (srcKv ca s)) ∧ H ca = some (.lst (s.cells.map V.int))

/-- what a name holds: data; a list, a dict of its own; the source -/
inductive Sl where
  | v (d : D)
  | l (ds : List D)
  | k (kvs : List (Key × D))
  | t (kvs : List (List Key × D))
  | s
def Sl.own : Sl → Bool
  | .l _ => true
  | .k _ => true
  | .t _ => true
  | _ => false
abbrev DEnv := List (Option Sl)
abbrev S := DEnv × Src

/-- the frame: what its callers own, the heap at its entry, the source's places -/
structure Fc where
  B : List Addr
  He : Hp
  sa : Addr
  ca : Addr

def SlOk (K : PySem.W.Frag) (F : Fc) (O : List Addr) (H : Hp) (x : V) : Sl → Prop
  | .v d => Rp K (fz O H) x d
  | .l ds => ∃ a xs, x = .ref a ∧ a ∈ O ∧ a ∉ F.B ∧ H a = some (.lst xs) ∧ RpA K (fz O H) xs ds
  | .k kds => ∃ a kvs, x = .ref a ∧ a ∈ O ∧ a ∉ F.B ∧ H a = some (.dK kvs) ∧ kvs.map (·.1) = kds.map (·.1) ∧ RpA K (fz O H) (kvs.map (·.2)) (kds.map (·.2))
  | .t kds => ∃ a kvs, x = .ref a ∧ a ∈ O ∧ a ∉ F.B ∧ H a = some (.dT kvs) ∧ kvs.map (·.1) = kds.map (·.1) ∧ RpA K (fz O H) (kvs.map (·.2)) (kds.map (·.2))
  | .s => x = .ref F.sa

structure RepS (K : PySem.W.Frag) (F : Fc) (O : List Addr) (H : Hp) (σ : St) (env : DEnv) (st : Src) : Prop where
  len : env.length = σ.length
  sl : ∀ (i : Nat) s, env[i]? = some (some s) → ∃ x, σ[i]? = some (some x) ∧ SlOk K F O H x s
  dist : ∀ (i j : Nat) si sj a, i ≠ j → env[i]? = some (some si) → env[j]? = some (some sj) → si.own = true → sj.own = true → σ[i]? = some (some (.ref a)) → σ[j]? ≠ some (some (.ref a))
  src : SrcAt H F.sa F.ca st
  saB : F.sa ∈ F.B
  caB : F.ca ∈ F.B
  sub : ∀ b ∈ F.B, b ∈ O
  dom : Dom O H
  fresh : ∀ b ∈ O, b ∈ F.B ∨ F.He b = none
  old : ∀ b o, F.He b = some o → b ∉ F.B → H b = some o
  oldB : ∀ b ∈ F.B, b ≠ F.sa → b ≠ F.ca → H b = F.He b

def Kn (env env' : DEnv) : Prop := ∀ (i : Nat) s', env'[i]? = some (some s') → s'.own = true → ∃ s, env[i]? = some (some s) ∧ s.own = true
theorem Kn.refl (env : DEnv) : Kn env env := fun _ s h o => ⟨s, h, o⟩
theorem Kn.trans {a b c : DEnv} (h : Kn a b) (k : Kn b c) : Kn a c := fun i s e o => by
  obtain ⟨s1, e1, o1⟩ := k i s e o
  exact h i s1 e1 o1

section
variable {K : PySem.W.Frag} {F : Fc} {O : List Addr} {H H' : Hp} {σ : St} {env : DEnv} {st : Src} {x : V} {s : Sl}
theorem SlOk.ext (h : Same H H') (r : SlOk K F O H x s) : SlOk K F O H' x s := by
  cases s with
  | v d => exact Rp.mono (fz_same h) r
  | l ds =>
    obtain ⟨a, xs, e, m, n, g, q⟩ := r
    exact ⟨a, xs, e, m, n, h _ _ g, q.mono (fz_same h)⟩
  | k ds =>
    obtain ⟨a, xs, e, m, n, g, k, q⟩ := r
    exact ⟨a, xs, e, m, n, h _ _ g, k, q.mono (fz_same h)⟩
  | t ds =>
    obtain ⟨a, xs, e, m, n, g, k, q⟩ := r
    exact ⟨a, xs, e, m, n, h _ _ g, k, q.mono (fz_same h)⟩
  | s => exact r
theorem SrcAt.ext {sa ca : Addr} (h : Same H H') (r : SrcAt H sa ca st) : SrcAt H' sa ca st := ⟨h _ _ r.1, h _ _ r.2⟩
/-- all that stood is kept -/
theorem RepS.ext (R : RepS K F O H σ env st) (h : Same H H') : RepS K F O H' σ env st where
  len := R.len
  sl := fun i s e => let ⟨x, a, b⟩ := R.sl i s e; ⟨x, a, b.ext h⟩
  dist := R.dist
  src := R.src.ext h
  saB := R.saB
  caB := R.caB
  sub := R.sub
  dom := R.dom.same h
  fresh := R.fresh
  old := fun b o e n => h _ _ (R.old b o e n)
  oldB := fun b hb n1 n2 => by
    have q := R.oldB b hb n1 n2
    cases e : H b with
    | none => exact absurd e (R.dom b (R.sub b hb))
    | some o => rw [h b o e, ← q, e]
theorem RepS.nB (R : RepS K F O H σ env st) {p : Addr} (h : H p = none) : p ∉ F.B := fun z => R.dom p (R.sub p z) h
/-- a new object, owned -/
theorem RepS.grow (R : RepS K F O H σ env st) {p : Addr} {o : HO} (h : H p = none) : RepS K F (p :: O) (upd H p o) σ env st := by
  have R1 := R.ext (same_upd (o := o) h)
  have np : p ∉ O := R.dom.ne h
  have hf : Same (fz O H) (fz (p :: O) (upd H p o)) := fun b u e => by
    obtain ⟨n, e⟩ := fz_iff.mp e
    have nb : b ≠ p := ne_of_none e h
    exact fz_iff.mpr ⟨fun z => (List.mem_cons.mp z).elim nb n, by rw [upd_ne nb]; exact e⟩
  refine ⟨R.len, fun i s e => ?_, R.dist, R1.src, R.saB, R.caB, fun b hb => List.mem_cons_of_mem _ (R.sub b hb), fun b hb => ?_, fun b hb => ?_, R1.old, R1.oldB⟩
  · obtain ⟨x, a, b⟩ := R.sl i s e
    refine ⟨x, a, ?_⟩
    cases s with
    | v d => exact Rp.mono hf b
    | l ds =>
      obtain ⟨c, xs, e1, m, n, g, q⟩ := b
      exact ⟨c, xs, e1, List.mem_cons_of_mem _ m, n, same_upd h _ _ g, q.mono hf⟩
    | k ds =>
      obtain ⟨c, xs, e1, m, n, g, k, q⟩ := b
      exact ⟨c, xs, e1, List.mem_cons_of_mem _ m, n, same_upd h _ _ g, k, q.mono hf⟩
    | t ds =>
      obtain ⟨c, xs, e1, m, n, g, k, q⟩ := b
      exact ⟨c, xs, e1, List.mem_cons_of_mem _ m, n, same_upd h _ _ g, k, q.mono hf⟩
    | s => exact b
  · rcases List.mem_cons.mp hb with z | z
    · rw [z, upd_same]; exact fun q => nomatch q
    · exact R1.dom b z
  · rcases List.mem_cons.mp hb with z | z
    · refine .inr ?_
      rw [z]
      cases q : F.He p with
      | none => rfl
      | some u =>
        have := R.old p u q (R.nB h)
        rw [h] at this; cases this
    · exact R.fresh b z
/-- what no name owns is owned no more -/
theorem RepS.shrink {p : Addr} (R : RepS K F (p :: O) H σ env st) (hp : ∀ (i : Nat) s, env[i]? = some (some s) → s.own = true → σ[i]? ≠ some (some (.ref p))) (nB : p ∉ F.B) : RepS K F O H σ env st := by
  have hf : Same (fz (p :: O) H) (fz O H) := fz_mono fun b hb => List.mem_cons_of_mem _ hb
  have mem : ∀ {a : Addr}, a ∈ p :: O → a ≠ p → a ∈ O := fun m n => (List.mem_cons.mp m).elim (fun z => absurd z n) id
  refine ⟨R.len, fun i s e => ?_, R.dist, R.src, R.saB, R.caB, fun b hb => mem (R.sub b hb) fun z => nB (z ▸ hb), fun b hb => R.dom b (List.mem_cons_of_mem _ hb), fun b hb => R.fresh b (List.mem_cons_of_mem _ hb), R.old, R.oldB⟩
  obtain ⟨x, a, b⟩ := R.sl i s e
  refine ⟨x, a, ?_⟩
  cases s with
  | v d => exact Rp.mono hf b
  | l ds =>
    obtain ⟨c, xs, e1, m, n, g, q⟩ := b
    exact ⟨c, xs, e1, mem m (fun z => hp i _ e rfl (by rw [a, e1, z])), n, g, q.mono hf⟩
  | k ds =>
    obtain ⟨c, xs, e1, m, n, g, k, q⟩ := b
    exact ⟨c, xs, e1, mem m (fun z => hp i _ e rfl (by rw [a, e1, z])), n, g, k, q.mono hf⟩
  | t ds =>
    obtain ⟨c, xs, e1, m, n, g, k, q⟩ := b
    exact ⟨c, xs, e1, mem m (fun z => hp i _ e rfl (by rw [a, e1, z])), n, g, k, q.mono hf⟩
  | s => exact b
/-- a name is given something -/
theorem RepS.put (R : RepS K F O H σ env st) {i : Nat} (hi : i < σ.length) (hx : SlOk K F O H x s)
    (hd : s.own = true → ∀ (j : Nat) sj a, j ≠ i → env[j]? = some (some sj) → sj.own = true → x = .ref a → σ[j]? ≠ some (some (.ref a))) :
    RepS K F O H (σ.set i (some x)) (env.set i (some s)) st := by
  have he : i < env.length := by rw [R.len]; exact hi
  refine ⟨by rw [List.length_set, List.length_set, R.len], fun j sj e => ?_, fun j k sj sk a n e1 e2 o1 o2 q1 q2 => ?_, R.src, R.saB, R.caB, R.sub, R.dom, R.fresh, R.old, R.oldB⟩
  · by_cases hj : i = j
    · subst hj
      rw [List.getElem?_set_self he] at e
      cases e
      exact ⟨x, by rw [List.getElem?_set_self hi], hx⟩
    · rw [List.getElem?_set_ne hj] at e
      obtain ⟨y, a, b⟩ := R.sl j sj e
      exact ⟨y, by rw [List.getElem?_set_ne hj]; exact a, b⟩
  · by_cases hj : i = j
    · subst hj
      have hk : i ≠ k := n
      rw [List.getElem?_set_self he] at e1
      cases e1
      rw [List.getElem?_set_self hi] at q1
      rw [List.getElem?_set_ne hk] at e2 q2
      have ex : x = .ref a := by
        have := Option.some.inj q1
        exact Option.some.inj this
      exact hd o1 k sk a (Ne.symm hk) e2 o2 ex q2
    · rw [List.getElem?_set_ne hj] at e1 q1
      by_cases hk : i = k
      · subst hk
        rw [List.getElem?_set_self he] at e2
        cases e2
        rw [List.getElem?_set_self hi] at q2
        have ex : x = .ref a := by
          have := Option.some.inj q2
          exact Option.some.inj this
        exact hd o2 j sj a (Ne.symm hj) e1 o1 ex q1
      · rw [List.getElem?_set_ne hk] at e2 q2
        exact R.dist j k sj sk a n e1 e2 o1 o2 q1 q2
/-- a name is forgotten -/
theorem RepS.drop (R : RepS K F O H σ env st) (i : Nat) : RepS K F O H σ (env.set i none) st := by
  have g : ∀ (j : Nat) s, (env.set i none)[j]? = some (some s) → env[j]? = some (some s) := fun j s e => by
    by_cases hj : i = j
    · subst hj
      by_cases hl : i < env.length
      · rw [List.getElem?_set_self hl] at e; cases e
      · rw [List.getElem?_eq_none (by simpa using hl)] at e; cases e
    · rw [List.getElem?_set_ne hj] at e; exact e
  exact ⟨by rw [List.length_set]; exact R.len, fun j s e => R.sl j s (g j s e), fun j k sj sk a n e1 e2 => R.dist j k sj sk a n (g j sj e1) (g k sk e2), R.src, R.saB, R.caB, R.sub, R.dom, R.fresh, R.old, R.oldB⟩
/-- an owned object is written -/
theorem RepS.write (R : RepS K F O H σ env st) {i : Nat} {a : Addr} {s' : Sl} {o : HO} (hi : env[i]? = some (some s)) (ho : s.own = true) (hs : σ[i]? = some (some (.ref a))) (ha : a ∈ O) (nB : a ∉ F.B)
    (new : SlOk K F O (upd H a o) (.ref a) s') : RepS K F O (upd H a o) σ (env.set i (some s')) st := by
  have hf : Same (fz O H) (fz O (upd H a o)) := fun b u e => by
    obtain ⟨n, e⟩ := fz_iff.mp e
    exact fz_iff.mpr ⟨n, by rw [upd_ne (a := a) (fun z : b = a => n (z ▸ ha))]; exact e⟩
  have he : i < env.length := (List.getElem?_eq_some_iff.mp hi).1
  have nsa : F.sa ≠ a := fun z => nB (z ▸ R.saB)
  have nca : F.ca ≠ a := fun z => nB (z ▸ R.caB)
  have ownE : ∀ (j : Nat) sj, (env.set i (some s'))[j]? = some (some sj) → sj.own = true → j ≠ i → env[j]? = some (some sj) := fun j sj e _ n => by
    rw [List.getElem?_set_ne (Ne.symm n)] at e; exact e
  refine ⟨by rw [List.length_set]; exact R.len, fun j sj e => ?_, fun j k sj sk b n e1 e2 o1 o2 q1 q2 => ?_, ⟨by rw [upd_ne nsa]; exact R.src.1, by rw [upd_ne nca]; exact R.src.2⟩, R.saB, R.caB, R.sub, fun b hb => ?_, R.fresh, fun b u e n => ?_, fun b hb n1 n2 => ?_⟩
  · by_cases hj : i = j
    · subst hj
      rw [List.getElem?_set_self he] at e
      cases e
      exact ⟨_, hs, new⟩
    · rw [List.getElem?_set_ne hj] at e
      obtain ⟨x, q, r⟩ := R.sl j sj e
      refine ⟨x, q, ?_⟩
      have ne : ∀ c, x = .ref c → sj.own = true → c ≠ a := fun c ex oj z => R.dist i j s sj a hj hi e ho oj hs (by rw [q, ex, z])
      cases sj with
      | v d => exact Rp.mono hf r
      | l ds =>
        obtain ⟨c, xs, e1, m, n, g, q⟩ := r
        exact ⟨c, xs, e1, m, n, by rw [upd_ne (ne c e1 rfl)]; exact g, q.mono hf⟩
      | k ds =>
        obtain ⟨c, xs, e1, m, n, g, k, q⟩ := r
        exact ⟨c, xs, e1, m, n, by rw [upd_ne (ne c e1 rfl)]; exact g, k, q.mono hf⟩
      | t ds =>
        obtain ⟨c, xs, e1, m, n, g, k, q⟩ := r
        exact ⟨c, xs, e1, m, n, by rw [upd_ne (ne c e1 rfl)]; exact g, k, q.mono hf⟩
      | s => exact r
  · by_cases hj : j = i
    · by_cases hk : k = i
      · exact n (hj.trans hk.symm)
      · subst hj
        exact R.dist j k s sk b n hi (ownE k sk e2 o2 hk) ho o2 q1 q2
    · by_cases hk : k = i
      · subst hk
        exact R.dist j k sj s b n (ownE j sj e1 o1 hj) hi o1 ho q1 q2
      · exact R.dist j k sj sk b n (ownE j sj e1 o1 hj) (ownE k sk e2 o2 hk) o1 o2 q1 q2
  · by_cases hb' : b = a
    · rw [hb', upd_same]; exact fun q => nomatch q
    · rw [upd_ne hb']; exact R.dom b hb
  · have nb : b ≠ a := fun z => by
      rcases R.fresh a ha with q | q
      · exact nB q
      · rw [z, q] at e; cases e
    rw [upd_ne nb]; exact R.old b u e n
  · rw [upd_ne (fun z : b = a => nB (z ▸ hb))]; exact R.oldB b hb n1 n2
theorem RepS.writeFz (R : RepS K F O H σ env st) {a : Addr} {o : HO} (ha : a ∈ O) : Same (fz O H) (fz O (upd H a o)) := fun b u e => by
  obtain ⟨n, e⟩ := fz_iff.mp e
  exact fz_iff.mpr ⟨n, by rw [upd_ne (a := a) (fun z : b = a => n (z ▸ ha))]; exact e⟩
end
end DL
set_option Elab.async false
set_option linter.all false
set_option maxRecDepth 100000
set_option maxHeartbeats 1000000
/-! DL1: expressions as functions of plain data. -/
namespace DL
open PySem PySem.Spec L2
open PyProof.Rows hiding St
variable [Zm]

/-! ### the plain side -/
def M (α : Type) := S → Option (α × S)
def ret {α : Type} (a : α) : M α := fun s => some (a, s)
def bnd {α β : Type} (f : M α) (k : α → M β) : M β := fun s => match f s with
  | none => none
  | some p => k p.1 p.2
def lft {α : Type} (o : Option α) : M α := fun s => match o with
  | none => none
  | some a => some (a, s)
theorem bnd_inv {α β : Type} {f : M α} {k : α → M β} {s : S} {p : β × S} (h : bnd f k s = some p) : ∃ a s1, f s = some (a, s1) ∧ k a s1 = some p := by
  unfold bnd at h
  cases e : f s with
  | none => rw [e] at h; cases h
  | some q => rw [e] at h; exact ⟨q.1, q.2, rfl, h⟩
theorem bnd_eq {α β : Type} {f : M α} {k : α → M β} {s s1 : S} {a : α} (h : f s = some (a, s1)) : bnd f k s = k a s1 := by
  unfold bnd; rw [h]
theorem lft_inv {α : Type} {o : Option α} {s : S} {p : α × S} (h : lft o s = some p) : ∃ a, o = some a ∧ p = (a, s) := by
  unfold lft at h
  cases o with
  | none => cases h
  | some a => cases h; exact ⟨a, rfl, rfl⟩
theorem lft_some {α : Type} {o : Option α} {a : α} {s : S} (h : o = some a) : lft o s = some (a, s) := by rw [h]; rfl

/-- an operand: data, or a name read when it is used -/
inductive Od where
  | d (d : D)
  | i (i : Nat)
def rdSl : Option (Option Sl) → Option D
  | some (some (.v d)) => some d
  | some (some (.l ds)) => some (.list ds)
  | some (some (.k kds)) => some (.dict (kds.map fun p => (encK p.1, p.2)))
  | some (some (.t kds)) => if kds.isEmpty then none else some (.dict (kds.map fun p => (encT p.1, p.2)))
  | _ => none
def rd (env : DEnv) : Od → Option D
  | .d d => some d
  | .i i => rdSl env[i]?
def rdM (p : Od) : M D := fun s => lft (rd s.1 p) s
def rdAll : List Od → DEnv → Option (List D)
  | [], _ => some []
  | p :: ps, env => match rd env p with
    | none => none
    | some d => match rdAll ps env with
      | none => none
      | some ds => some (d :: ds)
def rdsM (ps : List Od) : M (List D) := fun s => lft (rdAll ps s.1) s

def OdOk (K : PySem.W.Frag) (O : List Addr) (H : Hp) (σ : St) (x : V) : Od → Prop
  | .d d => Rp K (fz O H) x d
  | .i i => σ[i]? = some (some x)
theorem zip_of {κ : Type} (enc : κ → D) {kvs : List (κ × V)} {kds : List (κ × D)} (h : kvs.map (·.1) = kds.map (·.1)) : (kvs.map fun p => enc p.1).zip (kds.map (·.2)) = kds.map fun p => (enc p.1, p.2) := by
  have e : (kvs.map fun p => enc p.1) = kds.map fun p => enc p.1 := by
    have h2 := congrArg (List.map enc) h
    rw [List.map_map, List.map_map] at h2
    exact h2
  rw [e]
  clear h e
  induction kds with
  | nil => rfl
  | cons p r ih => simp [ih]
theorem ne_of_keys {κ : Type} {kvs : List (κ × V)} {kds : List (κ × D)} (h : kvs.map (·.1) = kds.map (·.1)) (hn : ¬ kds.isEmpty = true) : kvs ≠ [] := by
  intro z
  subst z
  cases kds with
  | nil => exact hn rfl
  | cons a b => cases h
section
variable {K : PySem.W.Frag} {F : Fc} {O : List Addr} {H H' : Hp} {σ : St} {env : DEnv} {st : Src} {x : V}
theorem RepS.rd1 (R : RepS K F O H σ env st) {i : Nat} {d : D} (hx : σ[i]? = some (some x)) (e : rdSl env[i]? = some d) : Rp1 K O H x d := by
  cases q : env[i]? with
  | none => rw [q] at e; cases e
  | some so =>
    cases so with
    | none => rw [q] at e; cases e
    | some sl =>
      rw [q] at e
      obtain ⟨y, hy, r⟩ := R.sl i sl q
      rw [hx] at hy
      have hxy : x = y := Option.some.inj (Option.some.inj hy)
      subst hxy
      cases sl with
      | v d' => cases e; exact .of r
      | l ds =>
        cases e
        obtain ⟨a, xs, e1, m, n, g, q⟩ := r
        subst e1
        exact .lst g q
      | k kds =>
        obtain ⟨a, kvs, e1, m, n, g, hk, q⟩ := r
        subst e1
        have e2 : d = PyData.dict (kds.map fun p => (encK p.1, p.2)) := (Option.some.inj e).symm
        rw [e2, ← zip_of encK hk]
        exact .dK g q
      | t kds =>
        obtain ⟨a, kvs, e1, m, n, g, hk, q⟩ := r
        subst e1
        have e : (if kds.isEmpty = true then none else some (PyData.dict (kds.map fun p => (encT p.1, p.2)))) = some d := e
        split at e
        · cases e
        · rename_i hne
          have e2 : d = PyData.dict (kds.map fun p => (encT p.1, p.2)) := (Option.some.inj e).symm
          rw [e2, ← zip_of encT hk]
          exact .dT g (ne_of_keys hk hne) q
      | s => cases e
theorem OdOk.rd (R : RepS K F O H σ env st) {p : Od} {d : D} (h : OdOk K O H σ x p) (e : rd env p = some d) : Rp1 K O H x d := by
  cases p with
  | d d' => cases e; exact .of h
  | i i => exact R.rd1 h e
theorem OdOk.mono {p : Od} (h : OdOk K O H σ x p) (s : Same (fz O H) (fz O H')) : OdOk K O H' σ x p := by
  cases p with
  | d d => exact Rp.mono s h
  | i i => exact h
inductive OdsOk (K : PySem.W.Frag) (O : List Addr) (H : Hp) (σ : St) : List V → List Od → Prop
  | nil : OdsOk K O H σ [] []
  | cons {x : V} {xs : List V} {p : Od} {ps : List Od} : OdOk K O H σ x p → OdsOk K O H σ xs ps → OdsOk K O H σ (x :: xs) (p :: ps)
inductive Rp1A (K : PySem.W.Frag) (O : List Addr) (H : Hp) : List V → List D → Prop
  | nil : Rp1A K O H [] []
  | cons {x : V} {xs : List V} {d : D} {ds : List D} : Rp1 K O H x d → Rp1A K O H xs ds → Rp1A K O H (x :: xs) (d :: ds)
theorem OdsOk.mono (s : Same (fz O H) (fz O H')) : ∀ {xs : List V} {ps : List Od}, OdsOk K O H σ xs ps → OdsOk K O H' σ xs ps
  | _, _, .nil => .nil
  | _, _, .cons a b => .cons (a.mono s) (OdsOk.mono s b)
theorem OdsOk.rd (R : RepS K F O H σ env st) : ∀ {xs : List V} {ps : List Od} {ds : List D}, OdsOk K O H σ xs ps → rdAll ps env = some ds → Rp1A K O H xs ds
  | _, _, _, .nil, e => by cases e; exact .nil
  | _, _, _, .cons (p := p) (ps := ps) a b, e => by
    unfold rdAll at e
    cases e1 : DL.rd env p with
    | none => rw [e1] at e; cases e
    | some d =>
      rw [e1] at e
      cases e2 : rdAll ps env with
      | none => rw [e2] at e; cases e
      | some ds =>
        rw [e2] at e
        cases e
        exact .cons (a.rd R e1) (OdsOk.rd R b e2)
end

/-! ### an expression as a function -/
abbrev Rs (K : PySem.W.Frag) (F : Fc) (O : List Addr) (H : Hp) (σ : St) (s : S) : Prop := RepS K F O H σ s.1 s.2
abbrev Rel (α : Type) := List Addr → Hp → St → V → α → Prop
def relV (K : PySem.W.Frag) : Rel D := fun O H _ x d => Rp K (fz O H) x d
def relO (K : PySem.W.Frag) : Rel Od := fun O H σ x p => OdOk K O H σ x p
def TG {α : Type} (K : PySem.W.Frag) (rel : Rel α) (f : M α) : TE := fun σ H Q => ∃ (F : Fc) (O : List Addr) (s : S) (a : α) (s' : S), Rs K F O H σ s ∧ f s = some (a, s') ∧
  ∀ x H', Rs K F O H' σ s' → Same (fz O H) (fz O H') → Kn s.1 s'.1 → rel O H' σ x a → Q x H'
def TGT (K : PySem.W.Frag) (f : M Bool) : TT := fun σ H Q => ∃ (F : Fc) (O : List Addr) (s : S) (a : Bool) (s' : S), Rs K F O H σ s ∧ f s = some (a, s') ∧
  ∀ H', Rs K F O H' σ s' → Same (fz O H) (fz O H') → Kn s.1 s'.1 → Q a H'
def TGA {α : Type} (K : PySem.W.Frag) (rel : List Addr → Hp → St → List V → α → Prop) (f : M α) : TA := fun σ H Q => ∃ (F : Fc) (O : List Addr) (s : S) (a : α) (s' : S), Rs K F O H σ s ∧ f s = some (a, s') ∧
  ∀ xs H', Rs K F O H' σ s' → Same (fz O H) (fz O H') → Kn s.1 s'.1 → rel O H' σ xs a → Q xs H'
abbrev DE (X : Cx) (e : Expr) (f : M D) : Prop := PE X e (TG X.K (relV X.K) f)
abbrev DO (X : Cx) (e : Expr) (f : M Od) : Prop := PE X e (TG X.K (relO X.K) f)
abbrev DT (X : Cx) (e : Expr) (f : M Bool) : Prop := PT X e (TGT X.K f)
abbrev DA (X : Cx) (es : List Expr) (f : M (List D)) : Prop := PA X es (TGA X.K (fun O H _ xs ds => RpA X.K (fz O H) xs ds) f)
abbrev DOs (X : Cx) (es : List Expr) (f : M (List Od)) : Prop := PA X es (TGA X.K (fun O H σ xs ds => OdsOk X.K O H σ xs ds) f)

section
variable {X : Cx} {pins : List (Addr × Obj)} {σ : St} {H : Hp} {sh : Shared} {F : Fc} {O : List Addr} {s s' : S}
theorem go {α : Type} {e : Expr} {rel : Rel α} {f : M α} {a : α} (h : PE X e (TG X.K rel f)) (I : Inv X pins σ H sh) (R : Rs X.K F O H σ s) (hf : f s = some (a, s')) :
    wpAny (model X.prog X.w) X.A (eval e X.env) (fun u s1 => ∃ x H1, Inv X pins σ H1 s1 ∧ RelV x u ∧ Rs X.K F O H1 σ s' ∧ Same (fz O H) (fz O H1) ∧ Kn s.1 s'.1 ∧ rel O H1 σ x a) X.xe sh :=
  thn (h.run pins sh σ H (fun x H1 => Rs X.K F O H1 σ s' ∧ Same (fz O H) (fz O H1) ∧ Kn s.1 s'.1 ∧ rel O H1 σ x a) I ⟨F, O, s, a, s', R, hf, fun _ _ a b c d => ⟨a, b, c, d⟩⟩)
    fun _ _ ⟨x, H1, I1, r, q⟩ => ⟨x, H1, I1, r, q⟩
theorem goT {e : Expr} {f : M Bool} {a : Bool} (h : DT X e f) (I : Inv X pins σ H sh) (R : Rs X.K F O H σ s) (hf : f s = some (a, s')) :
    wpAny (model X.prog X.w) X.A (isTrue e X.env (eval e X.env)) (fun b s1 => b = a ∧ ∃ H1, Inv X pins σ H1 s1 ∧ Rs X.K F O H1 σ s' ∧ Same (fz O H) (fz O H1) ∧ Kn s.1 s'.1) X.xe sh :=
  thn (h.run pins sh σ H (fun b H1 => b = a ∧ Rs X.K F O H1 σ s' ∧ Same (fz O H) (fz O H1) ∧ Kn s.1 s'.1) I ⟨F, O, s, a, s', R, hf, fun _ a b c => ⟨rfl, a, b, c⟩⟩)
    fun _ _ ⟨H1, I1, e, q⟩ => ⟨e, H1, I1, q⟩
theorem goA {α : Type} {es : List Expr} {rel : List Addr → Hp → St → List V → α → Prop} {f : M α} {a : α} {pos : Pos} (h : PA X es (TGA X.K rel f)) (I : Inv X pins σ H sh) (R : Rs X.K F O H σ s) (hf : f s = some (a, s')) :
    wpAny (model X.prog X.w) X.A (spliced (backTo pos (starEach es X.env))) (fun us s1 => ∃ xs H1, Inv X pins σ H1 s1 ∧ Vals xs us ∧ Rs X.K F O H1 σ s' ∧ Same (fz O H) (fz O H1) ∧ Kn s.1 s'.1 ∧ rel O H1 σ xs a) X.xe sh :=
  thn (h.run pos pins sh σ H (fun xs H1 => Rs X.K F O H1 σ s' ∧ Same (fz O H) (fz O H1) ∧ Kn s.1 s'.1 ∧ rel O H1 σ xs a) I ⟨F, O, s, a, s', R, hf, fun _ _ a b c d => ⟨a, b, c, d⟩⟩)
    fun _ _ ⟨x, H1, I1, r, q⟩ => ⟨x, H1, I1, r, q⟩
end

/-! ### operations by values -/
abbrev ValPost (K : PySem.W.Frag) (O : List Addr) (H : Hp) (Q : VK) (res : D) : Prop := ∀ z H', Same H H' → Rp K (fz O H') z res → Q z H'
def Op2 (X : Cx) (f : Value → Value → Sem Value) (r : D → D → Option D) : Prop :=
  ∀ (pins : List (Addr × Obj)) (s : Shared) (σ : St) (H : Hp) (O : List Addr) (x y : V) (v u : Value) (d e res : D) (Q : VK), Inv X pins σ H s → Dom O H → RelV x v → RelV y u → Rp1 X.K O H x d → Rp1 X.K O H y e → r d e = some res →
    ValPost X.K O H Q res → wpAny (model X.prog X.w) X.A (f v u) (EP X pins σ Q) X.xe s
def Op1 (X : Cx) (f : Value → Sem Value) (r : D → Option D) : Prop :=
  ∀ (pins : List (Addr × Obj)) (s : Shared) (σ : St) (H : Hp) (O : List Addr) (x : V) (v : Value) (d res : D) (Q : VK), Inv X pins σ H s → Dom O H → RelV x v → Rp1 X.K O H x d → r d = some res →
    ValPost X.K O H Q res → wpAny (model X.prog X.w) X.A (f v) (EP X pins σ Q) X.xe s
def OpN (X : Cx) (f : Value) (r : List D → Option D) : Prop :=
  ∀ (pins : List (Addr × Obj)) (s : Shared) (σ : St) (H : Hp) (O : List Addr) (xs : List V) (us : List Value) (ds : List D) (res : D) (Q : VK), Inv X pins σ H s → Dom O H → Vals xs us → Rp1A X.K O H xs ds → r ds = some res →
    ValPost X.K O H Q res → wpAny (model X.prog X.w) X.A (call f us) (EP X pins σ Q) X.xe s
/-- a fresh list is handed out -/
abbrev FrPost (K : PySem.W.Frag) (O : List Addr) (H : Hp) (Q : VK) (ds : List D) : Prop := ∀ p xs, H p = none → RpA K (fz O H) xs ds → Q (.ref p) (upd H p (.lst xs))
theorem fr_val {K : PySem.W.Frag} {O : List Addr} {H : Hp} {Q : VK} {ds : List D} (d : Dom O H) (h : ValPost K O H Q (.list ds)) : FrPost K O H Q ds := fun p xs np r =>
  h _ _ (same_upd np) (.lst (fz_iff.mpr ⟨d.ne np, upd_same⟩) (r.mono (fz_same (same_upd np))))
def Fr2 (X : Cx) (f : Value → Value → Sem Value) (r : D → D → Option (List D)) : Prop :=
  ∀ (pins : List (Addr × Obj)) (s : Shared) (σ : St) (H : Hp) (O : List Addr) (x y : V) (v u : Value) (d e : D) (res : List D) (Q : VK), Inv X pins σ H s → RelV x v → RelV y u → Rp1 X.K O H x d → Rp1 X.K O H y e → r d e = some res →
    FrPost X.K O H Q res → wpAny (model X.prog X.w) X.A (f v u) (EP X pins σ Q) X.xe s
def FrN (X : Cx) (f : Value) (r : List D → Option (List D)) : Prop :=
  ∀ (pins : List (Addr × Obj)) (s : Shared) (σ : St) (H : Hp) (O : List Addr) (xs : List V) (us : List Value) (ds res : List D) (Q : VK), Inv X pins σ H s → Vals xs us → Rp1A X.K O H xs ds → r ds = some res →
    FrPost X.K O H Q res → wpAny (model X.prog X.w) X.A (call f us) (EP X pins σ Q) X.xe s
theorem Op2.or {X : Cx} {f : Value → Value → Sem Value} {r r' : D → D → Option D} (h : Op2 X f r) (h' : Op2 X f r') : Op2 X f (fun d e => (r d e).or (r' d e)) := by
  intro pins s σ H O x y v u d e res Q I dm rx ry x1 y1 hr q
  cases e1 : r d e with
  | some z => 
    have : z = res := by simpa [e1] using hr
    subst this
    exact h pins s σ H O x y v u d e z Q I dm rx ry x1 y1 e1 q
  | none =>
    have : r' d e = some res := by simpa [e1] using hr
    exact h' pins s σ H O x y v u d e res Q I dm rx ry x1 y1 this q
theorem OpN.or {X : Cx} {f : Value} {r r' : List D → Option D} (h : OpN X f r) (h' : OpN X f r') : OpN X f (fun d => (r d).or (r' d)) := by
  intro pins s σ H O xs us ds res Q I dm rx x1 hr q
  cases e1 : r ds with
  | some z => 
    have : z = res := by simpa [e1] using hr
    subst this
    exact h pins s σ H O xs us ds z Q I dm rx x1 e1 q
  | none =>
    have : r' ds = some res := by simpa [e1] using hr
    exact h' pins s σ H O xs us ds res Q I dm rx x1 this q
theorem Fr2.op {X : Cx} {f : Value → Value → Sem Value} {r : D → D → Option (List D)} (h : Fr2 X f r) : Op2 X f (fun d e => (r d e).map PyData.list) := by
  intro pins s σ H O x y v u d e res Q I dm rx ry x1 y1 hr q
  have hr : (r d e).map PyData.list = some res := hr
  cases e1 : r d e with
  | none => rw [e1] at hr; cases hr
  | some z =>
    rw [e1] at hr
    cases hr
    exact h pins s σ H O x y v u d e z Q I rx ry x1 y1 e1 (fr_val dm q)
theorem FrN.op {X : Cx} {f : Value} {r : List D → Option (List D)} (h : FrN X f r) : OpN X f (fun ds => (r ds).map PyData.list) := by
  intro pins s σ H O xs us ds res Q I dm rx x1 hr q
  have hr : (r ds).map PyData.list = some res := hr
  cases e1 : r ds with
  | none => rw [e1] at hr; cases hr
  | some z =>
    rw [e1] at hr
    cases hr
    exact h pins s σ H O xs us ds z Q I rx x1 e1 (fr_val dm q)

/-! ### the expressions -/
section
variable {X : Cx} {pos : Pos}
theorem RelV.V_inj {x y : V} {u : Value} (r : RelV x u) (q : RelV y u) : x = y := r.inj q
def mVar (i : Nat) : M D := fun s => match s.1[i]? with
  | some (some (.v d)) => some (d, s)
  | _ => none
theorem de_var (i : Nat) {x : Str} {p : Pos} (hN : X.N[i]? = some x := by rfl) (hv : Vis X.env.scope x := by first | exact Or.inl rfl | exact Or.inr (Or.inl rfl) | exact Or.inr (Or.inr rfl)) (hd : (x == ("__debug__" : Str)) = false := by decide)
    (hcd : (x == ("__classdict__" : Str)) = false := by decide) : DE X (.Name x p) (mVar i) := by
  refine ⟨fun pins sh σ H Q I h => ?_⟩
  obtain ⟨F, O, s, a, s', R, hf, q⟩ := h
  unfold mVar at hf
  split at hf
  · rename_i d e
    cases hf
    obtain ⟨y, hy, r⟩ := R.sl i _ e
    exact (pe_var hN hv hd hcd).run pins sh σ H Q I ⟨y, hy, q y H R (Same.refl _) (Kn.refl _) r⟩
  · cases hf
def mSlot (i : Nat) : M Od := fun s => match s.1[i]? with
  | some (some _) => some (.i i, s)
  | _ => none
theorem do_slot (i : Nat) {x : Str} {p : Pos} (hN : X.N[i]? = some x := by rfl) (hv : Vis X.env.scope x := by first | exact Or.inl rfl | exact Or.inr (Or.inl rfl) | exact Or.inr (Or.inr rfl)) (hd : (x == ("__debug__" : Str)) = false := by decide)
    (hcd : (x == ("__classdict__" : Str)) = false := by decide) : DO X (.Name x p) (mSlot i) := by
  refine ⟨fun pins sh σ H Q I h => ?_⟩
  obtain ⟨F, O, s, a, s', R, hf, q⟩ := h
  unfold mSlot at hf
  split at hf
  · rename_i d e
    cases hf
    obtain ⟨y, hy, r⟩ := R.sl i _ e
    exact (pe_var hN hv hd hcd).run pins sh σ H Q I ⟨y, hy, q y H R (Same.refl _) (Kn.refl _) hy⟩
  · cases hf
theorem de_do {e : Expr} {f : M D} (h : DE X e f) : DO X e (bnd f fun d => ret (Od.d d)) := by
  refine ⟨fun pins sh σ H Q I hw => ?_⟩
  obtain ⟨F, O, s, a, s', R, hf, q⟩ := hw
  obtain ⟨d, s1, h1, h2⟩ := bnd_inv hf
  cases h2
  exact h.run pins sh σ H Q I ⟨F, O, s, d, _, R, h1, fun x H' a b c r => q x H' a b c r⟩
def mC (d : D) : M D := ret d
theorem de_const {e : Expr} {v : V} {d : D} (h : PE X e (tC v)) (r : ∀ G, Rp X.K G v d) : DE X e (mC d) := by
  refine ⟨fun pins sh σ H Q I hw => ?_⟩
  obtain ⟨F, O, s, a, s', R, hf, q⟩ := hw
  cases hf
  exact h.run pins sh σ H Q I (q v H R (Same.refl _) (Kn.refl _) (r _))
def cOp2 (r : D → D → Option D) (f g : M Od) : M D := bnd f fun p => bnd g fun q => bnd (rdM p) fun d => bnd (rdM q) fun e => lft (r d e)
theorem rdM_inv {p : Od} {s : S} {q : D × S} (h : rdM p s = some q) : ∃ d, rd s.1 p = some d ∧ q = (d, s) := lft_inv h
theorem bin2 {a b : Expr} {f g : M Od} {r : D → D → Option D} {op : Value → Value → Sem Value} (ho : Op2 X op r) (ha : DO X a f) (hb : DO X b g) {pins : List (Addr × Obj)} {sh : Shared} {σ : St} {H : Hp} {Q : VK} (I : Inv X pins σ H sh)
    (h : TG X.K (relV X.K) (cOp2 r f g) σ H Q) :
    wpAny (model X.prog X.w) X.A (eval a X.env) (fun v s₁ => wpAny (model X.prog X.w) X.A (eval b X.env) (fun u s₂ => wpAny (model X.prog X.w) X.A (op v u) (EP X pins σ Q) X.xe s₂) X.xe s₁) X.xe sh := by
  obtain ⟨F, O, s, z, s', R, hf, q⟩ := h
  obtain ⟨p, s1, h1, hf⟩ := bnd_inv hf
  obtain ⟨p', s2, h2, hf⟩ := bnd_inv hf
  obtain ⟨d, s3, h3, hf⟩ := bnd_inv hf
  obtain ⟨d1, e3, e4⟩ := rdM_inv h3
  cases e4
  obtain ⟨e, s4, h4, hf⟩ := bnd_inv hf
  obtain ⟨d2, e5, e6⟩ := rdM_inv h4
  cases e6
  obtain ⟨z', e7, e8⟩ := lft_inv hf
  cases e8
  refine thn (go ha I R h1) fun v sh1 ⟨x, H1, I1, rx, R1, S1, K1, o1⟩ => ?_
  refine thn (go hb I1 R1 h2) fun u sh2 ⟨y, H2, I2, ry, R2, S2, K2, o2⟩ => ?_
  refine ho pins sh2 σ H2 O x y v u _ _ _ Q I2 R2.dom rx ry ((OdOk.mono o1 S2).rd R2 e3) (OdOk.rd R2 o2 e5) e7 fun w H3 S3 r3 => ?_
  exact q w H3 (R2.ext S3) (Same.trans S1 (Same.trans S2 (fz_same S3))) (K1.trans K2) r3
theorem de_bin {a b : Expr} {f g : M Od} {op : Operator} {r : D → D → Option D} (ho : Op2 X (binaryOp op) r) (ha : DO X a f) (hb : DO X b g) : DE X (.BinOp a op b pos) (cOp2 r f g) :=
  ⟨fun pins sh σ H Q I h => wpAny_BinOp (bin2 ho ha hb I h)⟩
theorem de_cmp {a b : Expr} {f g : M Od} {op : CmpOp} {r : D → D → Option D} (ho : Op2 X (compareOp op) r) (ha : DO X a f) (hb : DO X b g) (hm : behindInMarks op b = false := by first | exact nomark _ | rfl) : DE X (.Compare a [op] [b] pos) (cOp2 r f g) :=
  ⟨fun pins sh σ H Q I h => wpAny_Compare1 (bin2 ho ha hb I h) hm⟩
/-- the bool of data -/
def bolM (d : D) : M Bool := fun s => match d with
  | .bool b => some (b, s)
  | _ => none
theorem bolM_inv {d : D} {s : S} {q : Bool × S} (h : bolM d s = some q) : ∃ b, d = .bool b ∧ q = (b, s) := by
  unfold bolM at h
  split at h
  · cases h; exact ⟨_, rfl, rfl⟩
  · cases h
def cB (f : M D) : M Bool := bnd f bolM
theorem dt_cmp {a b : Expr} {f g : M Od} {op : CmpOp} {r : D → D → Option D} (ho : Op2 X (compareOp op) r) (ha : DO X a f) (hb : DO X b g) (hm : behindInMarks op b = false := by first | exact nomark _ | rfl) : DT X (.Compare a [op] [b] pos) (cB (cOp2 r f g)) := by
  refine ⟨fun pins sh σ H Q I h => ?_⟩
  obtain ⟨F, O, s, z, s', R, hf, q⟩ := h
  obtain ⟨d, s1, h1, h2⟩ := bnd_inv hf
  obtain ⟨b', e1, e2⟩ := bolM_inv h2
  cases e2
  subst e1
  refine wpAny_isTrue_Compare1 (thn (bin2 (Q := fun x H1 => x = .bl z ∧ Q z H1) ho ha hb I ⟨F, O, s, _, _, R, h1, fun x H1 a b c d => ⟨d.bl_inv, q H1 a b c⟩⟩) fun v s1 h1 => thn h1 fun u s2 h2 => thn h2 fun c s3 ⟨x, H1, I1, r1, e1, q1⟩ => ?_) hm
  subst e1
  cases r1
  exact wpAny_truthy_bool ⟨H1, I1, q1⟩
/-- a bool-valued expression as a test -/
theorem dt_val {e : Expr} {f : M D} (h : DE X e f) (he : ∀ whole, isTrue e X.env whole = (do let v ← whole; standAt e.pos; holding [v] (truthy v)) := by intro _; rfl) : DT X e (cB f) := by
  refine ⟨fun pins sh σ H Q I hw => ?_⟩
  obtain ⟨F, O, s, z, s', R, hf, q⟩ := hw
  obtain ⟨d, s1, h1, h2⟩ := bnd_inv hf
  obtain ⟨b', e1, e2⟩ := bolM_inv h2
  cases e2
  subst e1
  exact (pt_val h he).run pins sh σ H Q I ⟨F, O, s, _, _, R, h1, fun x H1 a b c d => ⟨_, d.bl_inv, q H1 a b c⟩⟩
def cNot (f : M Bool) : M Bool := bnd f fun b => ret (!b)
theorem dt_not {a : Expr} {f : M Bool} (h : DT X a f) : DT X (.UnaryOp .Not a pos) (cNot f) := by
  refine ⟨fun pins sh σ H Q I hw => ?_⟩
  obtain ⟨F, O, s, z, s', R, hf, q⟩ := hw
  obtain ⟨b, s1, h1, h2⟩ := bnd_inv hf
  cases h2
  exact (pt_not h).run pins sh σ H Q I ⟨F, O, s, _, _, R, h1, fun H1 a b c => q H1 a b c⟩
def cNotV (f : M D) : M D := bnd f fun d => bnd (bolM d) fun b => ret (.bool (!b))
theorem de_not {a : Expr} {f : M D} (h : DE X a f) : DE X (.UnaryOp .Not a pos) (cNotV f) := by
  refine ⟨fun pins sh σ H Q I hw => ?_⟩
  obtain ⟨F, O, s, z, s', R, hf, q⟩ := hw
  obtain ⟨d, s1, h1, h2⟩ := bnd_inv hf
  obtain ⟨b, s2, h3, h4⟩ := bnd_inv h2
  obtain ⟨b', e1, e2⟩ := bolM_inv h3
  cases e2
  cases h4
  subst e1
  exact (pe_not h).run pins sh σ H Q I ⟨F, O, s, _, _, R, h1, fun x H1 a b c d => ⟨_, d.bl_inv, q _ H1 a b c (.bl _)⟩⟩
/-- and, or as tests -/
abbrev DW (X : Cx) (e : Expr) (f : M Bool) : Prop := PW X e (TGT X.K f)
def cAnd (f g : M Bool) : M Bool := bnd f fun b => if b then g else ret false
def cOr (f g : M Bool) : M Bool := bnd f fun b => if b then ret true else g
theorem dw_and1 {a : Expr} {f : M Bool} (h : DT X a f) : DW X (.BoolOp .And [a] pos) f := pw_and1 h
theorem dw_or1 {a : Expr} {f : M Bool} (h : DT X a f) : DW X (.BoolOp .Or [a] pos) f := pw_or1 h
theorem DW.dt {e : Expr} {f : M Bool} (h : DW X e f) : DT X e f := PW.pt h
theorem dw_and {a b : Expr} {r : List Expr} {f g : M Bool} (ha : DT X a f) (hb : DW X (.BoolOp .And (b :: r) pos) g) : DW X (.BoolOp .And (a :: b :: r) pos) (cAnd f g) := by
  refine ⟨fun wh pins sh σ H Q I h => ?_⟩
  obtain ⟨F, O, s, z, s', R, hf, q⟩ := h
  obtain ⟨c, s1, h1, h2⟩ := bnd_inv hf
  refine (pw_and ha hb).run wh pins sh σ H Q I ⟨F, O, s, _, _, R, h1, fun H1 a b k => ?_⟩
  cases c with
  | false =>
    rw [if_neg (by decide)] at h2 ⊢
    cases h2
    exact q H1 a b k
  | true =>
    rw [if_pos rfl] at h2 ⊢
    exact ⟨F, O, s1, _, _, a, h2, fun H2 a2 b2 k2 => q H2 a2 (b.trans b2) (k.trans k2)⟩
theorem dw_or {a b : Expr} {r : List Expr} {f g : M Bool} (ha : DT X a f) (hb : DW X (.BoolOp .Or (b :: r) pos) g) : DW X (.BoolOp .Or (a :: b :: r) pos) (cOr f g) := by
  refine ⟨fun wh pins sh σ H Q I h => ?_⟩
  obtain ⟨F, O, s, z, s', R, hf, q⟩ := h
  obtain ⟨c, s1, h1, h2⟩ := bnd_inv hf
  refine (pw_or ha hb).run wh pins sh σ H Q I ⟨F, O, s, _, _, R, h1, fun H1 a b k => ?_⟩
  cases c with
  | true =>
    rw [if_pos rfl] at h2 ⊢
    cases h2
    exact q H1 a b k
  | false =>
    rw [if_neg (by decide)] at h2 ⊢
    exact ⟨F, O, s1, _, _, a, h2, fun H2 a2 b2 k2 => q H2 a2 (b.trans b2) (k.trans k2)⟩
/-- .. as values, all but the last bools -/
def cAndV (f g : M D) : M D := bnd f fun d => bnd (bolM d) fun b => if b then g else ret (.bool false)
def cOrV (f g : M D) : M D := bnd f fun d => bnd (bolM d) fun b => if b then ret (.bool true) else g
theorem de_one {op} {a : Expr} {f : M D} (h : DE X a f) : DE X (.BoolOp op [a] pos) f := pe_one h
theorem de_and {a b : Expr} {r : List Expr} {f g : M D} (ha : DE X a f) (hb : DE X (.BoolOp .And (b :: r) pos) g) : DE X (.BoolOp .And (a :: b :: r) pos) (cAndV f g) := by
  refine ⟨fun pins sh σ H Q I h => ?_⟩
  obtain ⟨F, O, s, z, s', R, hf, q⟩ := h
  obtain ⟨d, s1, h1, h2⟩ := bnd_inv hf
  obtain ⟨c, s2, h3, h4⟩ := bnd_inv h2
  obtain ⟨c', e1, e2⟩ := bolM_inv h3
  cases e2
  subst e1
  refine (pe_and ha hb).run pins sh σ H Q I ⟨F, O, s, _, _, R, h1, fun x H1 a b k r => ⟨c, r.bl_inv, ?_⟩⟩
  cases c with
  | false =>
    rw [if_neg (by decide)] at h4 ⊢
    cases h4
    exact q _ H1 a b k (.bl _)
  | true =>
    rw [if_pos rfl] at h4 ⊢
    exact ⟨F, O, _, _, _, a, h4, fun x2 H2 a2 b2 k2 r2 => q x2 H2 a2 (b.trans b2) (k.trans k2) r2⟩
theorem de_or {a b : Expr} {r : List Expr} {f g : M D} (ha : DE X a f) (hb : DE X (.BoolOp .Or (b :: r) pos) g) : DE X (.BoolOp .Or (a :: b :: r) pos) (cOrV f g) := by
  refine ⟨fun pins sh σ H Q I h => ?_⟩
  obtain ⟨F, O, s, z, s', R, hf, q⟩ := h
  obtain ⟨d, s1, h1, h2⟩ := bnd_inv hf
  obtain ⟨c, s2, h3, h4⟩ := bnd_inv h2
  obtain ⟨c', e1, e2⟩ := bolM_inv h3
  cases e2
  subst e1
  refine (pe_or ha hb).run pins sh σ H Q I ⟨F, O, s, _, _, R, h1, fun x H1 a b k r => ⟨c, r.bl_inv, ?_⟩⟩
  cases c with
  | true =>
    rw [if_pos rfl] at h4 ⊢
    cases h4
    exact q _ H1 a b k (.bl _)
  | false =>
    rw [if_neg (by decide)] at h4 ⊢
    exact ⟨F, O, _, _, _, a, h4, fun x2 H2 a2 b2 k2 r2 => q x2 H2 a2 (b.trans b2) (k.trans k2) r2⟩
def cIf {α : Type} (t : M Bool) (f g : M α) : M α := bnd t fun b => if b then f else g
theorem de_if {t a b : Expr} {c : M Bool} {f g : M D} (ht : DT X t c) (ha : DE X a f) (hb : DE X b g) : DE X (.IfExp t a b pos) (cIf c f g) := by
  refine ⟨fun pins sh σ H Q I h => ?_⟩
  obtain ⟨F, O, s, z, s', R, hf, q⟩ := h
  obtain ⟨d, s1, h1, h2⟩ := bnd_inv hf
  refine (pe_ifExp ht ha hb).run pins sh σ H Q I ⟨F, O, s, _, _, R, h1, fun H1 a b k => ?_⟩
  cases d with
  | true =>
    rw [if_pos rfl] at h2 ⊢
    exact ⟨F, O, s1, _, _, a, h2, fun x2 H2 a2 b2 k2 r2 => q x2 H2 a2 (b.trans b2) (k.trans k2) r2⟩
  | false =>
    rw [if_neg (by decide)] at h2 ⊢
    exact ⟨F, O, s1, _, _, a, h2, fun x2 H2 a2 b2 k2 r2 => q x2 H2 a2 (b.trans b2) (k.trans k2) r2⟩
/-! lists of operands, of values -/
theorem dos_nil : DOs X [] (ret []) := by
  refine ⟨fun pos pins sh σ H Q I h => ?_⟩
  obtain ⟨F, O, s, a, s', R, hf, q⟩ := h
  cases hf
  exact pa_nil.run pos pins sh σ H Q I (q [] H R (Same.refl _) (Kn.refl _) .nil)
def cCons {α : Type} (f : M α) (g : M (List α)) : M (List α) := bnd f fun a => bnd g fun r => ret (a :: r)
theorem dos_cons {e : Expr} {es : List Expr} {f : M Od} {g : M (List Od)} (ha : DO X e f) (hr : DOs X es g) (hs : starEach (e :: es) X.env = (false, eval e X.env) :: starEach es X.env := by rfl) : DOs X (e :: es) (cCons f g) := by
  refine ⟨fun pos pins sh σ H Q I h => ?_⟩
  obtain ⟨F, O, s, a, s', R, hf, q⟩ := h
  obtain ⟨d, s1, h1, hf⟩ := bnd_inv hf
  obtain ⟨r, s2, h2, hf⟩ := bnd_inv hf
  cases hf
  refine (pa_cons ha hr hs).run pos pins sh σ H Q I ⟨F, O, s, _, _, R, h1, fun x H1 a b k o => ⟨F, O, s1, _, _, a, h2, fun xs H2 a2 b2 k2 o2 => ?_⟩⟩
  exact q _ H2 a2 (b.trans b2) (k.trans k2) (.cons (OdOk.mono o b2) o2)
theorem da_nil : DA X [] (ret []) := by
  refine ⟨fun pos pins sh σ H Q I h => ?_⟩
  obtain ⟨F, O, s, a, s', R, hf, q⟩ := h
  cases hf
  exact pa_nil.run pos pins sh σ H Q I (q [] H R (Same.refl _) (Kn.refl _) .nil)
theorem da_cons {e : Expr} {es : List Expr} {f : M D} {g : M (List D)} (ha : DE X e f) (hr : DA X es g) (hs : starEach (e :: es) X.env = (false, eval e X.env) :: starEach es X.env := by rfl) : DA X (e :: es) (cCons f g) := by
  refine ⟨fun pos pins sh σ H Q I h => ?_⟩
  obtain ⟨F, O, s, a, s', R, hf, q⟩ := h
  obtain ⟨d, s1, h1, hf⟩ := bnd_inv hf
  obtain ⟨r, s2, h2, hf⟩ := bnd_inv hf
  cases hf
  refine (pa_cons ha hr hs).run pos pins sh σ H Q I ⟨F, O, s, _, _, R, h1, fun x H1 a b k o => ⟨F, O, s1, _, _, a, h2, fun xs H2 a2 b2 k2 o2 => ?_⟩⟩
  exact q _ H2 a2 (b.trans b2) (k.trans k2) (.cons (Rp.mono b2 o) o2)
def line : Nat := 16777216
theorem line_eq : line = sizeLine := sizeLine_eq.symm
/-- at most as long as a list may be -/
def shortM {α : Type} (xs : List α) : M (List α) := fun s => if xs.length ≤ line then some (xs, s) else none
theorem shortM_inv {α : Type} {xs : List α} {s : S} {p : List α × S} (h : shortM xs s = some p) : xs.length ≤ sizeLine ∧ p = (xs, s) := by
  unfold shortM at h
  split at h
  · rename_i z; cases h; exact ⟨by rw [← line_eq]; exact z, rfl⟩
  · cases h
def cTup (f : M (List D)) : M D := bnd f fun ds => bnd (shortM ds) fun ds => ret (.tuple ds)
theorem de_tup {es : List Expr} {x1} {f : M (List D)} (h : DA X es f) : DE X (.Tuple es x1 pos) (cTup f) := by
  refine ⟨fun pins sh σ H Q I hw => ?_⟩
  obtain ⟨F, O, s, a, s', R, hf, q⟩ := hw
  obtain ⟨ds, s1, h1, hf⟩ := bnd_inv hf
  obtain ⟨ds', s2, h2, hf⟩ := bnd_inv hf
  obtain ⟨hz, e⟩ := shortM_inv h2
  cases e
  cases hf
  refine wpAny_Tuple_spliced (thn (goA (pos := pos) h I R h1) fun us s1 ⟨xs, H1, I1, rv, a, b, k, r⟩ => ⟨by rw [← rv.length, r.len]; exact hz, ?_⟩)
  have np : H1 s1.heap.objs.size = none := I1.hok.fresh (Nat.le_refl _)
  let ob : Obj := { cls := .type "tuple", data := .seq us.toArray }
  have S1 : Same H1 (upd H1 s1.heap.objs.size (tupO Zm.z ob xs)) := same_upd np
  refine ⟨.ref s1.heap.objs.size, upd H1 s1.heap.objs.size (tupO Zm.z ob xs), I1.laid (t' := s1.toks) (fun b u e => Heap.get?_push_of_some _ e) (Nat.le_refl _) (tupO_ok (Heap.get?_push_size _ rfl) rfl rfl rv (by rw [r.len]; exact hz)), rfl, ?_⟩
  exact q _ _ (a.ext S1) (b.trans (fz_same S1)) k (.tup (tupAt_fz (a.dom.ne np) rfl) (r.mono (fz_same S1)))
end
end DL
set_option Elab.async false
set_option linter.all false
set_option maxRecDepth 100000
set_option maxHeartbeats 1000000
/-! DL2: fresh lists, statements, targets, loops, comprehensions. -/
namespace DL
open PySem PySem.Spec L2
open PyProof.Rows hiding St
variable [Zm]

section
variable {K : PySem.W.Frag} {F : Fc} {O : List Addr} {H H' : Hp} {σ : St} {env : DEnv} {st : Src} {x : V} {s : Sl}
theorem SlOk.addr {sl : Sl} (h : SlOk K F O H x sl) (ho : sl.own = true) : ∃ a, x = .ref a ∧ a ∈ O ∧ a ∉ F.B := by
  cases sl with
  | v d => cases ho
  | l ds => obtain ⟨a, _, e, m, n, _⟩ := h; exact ⟨a, e, m, n⟩
  | k ds => obtain ⟨a, _, e, m, n, _⟩ := h; exact ⟨a, e, m, n⟩
  | t ds => obtain ⟨a, _, e, m, n, _⟩ := h; exact ⟨a, e, m, n⟩
  | s => cases ho
/-- what is owned is not a new address -/
theorem RepS.own_ne (R : RepS K F O H σ env st) {p : Addr} (hp : p ∉ O) : ∀ (i : Nat) sl, env[i]? = some (some sl) → sl.own = true → σ[i]? ≠ some (some (.ref p)) := fun i sl e o q => by
  obtain ⟨x, hx, r⟩ := R.sl i sl e
  obtain ⟨a, e1, m, _⟩ := r.addr o
  rw [q] at hx
  have : V.ref p = x := Option.some.inj (Option.some.inj hx)
  rw [e1] at this
  cases this
  exact hp m
theorem fz_grow {p : Addr} (h : H p = none) (hs : Same H H') : Same (fz O H) (fz (p :: O) H') := fun b u e => by
  obtain ⟨n, e⟩ := fz_iff.mp e
  exact fz_iff.mpr ⟨fun z => (List.mem_cons.mp z).elim (ne_of_none e h) n, hs b u e⟩

/-! ### fresh lists -/
def TGF (K : PySem.W.Frag) (f : M (List D)) : TE := fun σ H Q => ∃ (F : Fc) (O : List Addr) (s : S) (ds : List D) (s' : S), Rs K F O H σ s ∧ f s = some (ds, s') ∧
  ∀ p xs H', Rs K F (p :: O) H' σ s' → Same (fz O H) (fz (p :: O) H') → Kn s.1 s'.1 → p ∉ O → p ∉ F.B → (∀ (i : Nat) sl, s'.1[i]? = some (some sl) → sl.own = true → σ[i]? ≠ some (some (.ref p))) →
    H' p = some (.lst xs) → RpA K (fz (p :: O) H') xs ds → Q (.ref p) H'
abbrev DF (X : Cx) (e : Expr) (f : M (List D)) : Prop := PE X e (TGF X.K f)
end
section
variable {X : Cx} {pos : Pos}
def cList (f : M (List D)) : M D := bnd f fun ds => ret (.list ds)
theorem df_de {e : Expr} {f : M (List D)} (h : DF X e f) : DE X e (cList f) := by
  refine ⟨fun pins sh σ H Q I hw => ?_⟩
  obtain ⟨F, O, s, a, s', R, hf, q⟩ := hw
  obtain ⟨ds, s1, h1, h2⟩ := bnd_inv hf
  cases h2
  refine h.run pins sh σ H Q I ⟨F, O, s, ds, _, R, h1, fun p xs H' a b k n nb ne hp r => ?_⟩
  have S1 : Same (fz (p :: O) H') (fz O H') := fz_mono fun b hb => List.mem_cons_of_mem _ hb
  exact q _ H' (a.shrink ne nb) (b.trans S1) k (.lst (fz_iff.mpr ⟨n, hp⟩) (r.mono S1))
/-- from a fresh list's place -/
theorem fr_own {K : PySem.W.Frag} {F : Fc} {O : List Addr} {H0 H : Hp} {σ : St} {s0 s : S} {Q : VK} {ds : List D} (R : Rs K F O H σ s) (S0 : Same (fz O H0) (fz O H)) (k0 : Kn s0.1 s.1)
    (q : ∀ p xs H', Rs K F (p :: O) H' σ s → Same (fz O H0) (fz (p :: O) H') → Kn s0.1 s.1 → p ∉ O → p ∉ F.B → (∀ (i : Nat) sl, s.1[i]? = some (some sl) → sl.own = true → σ[i]? ≠ some (some (.ref p))) →
      H' p = some (.lst xs) → RpA K (fz (p :: O) H') xs ds → Q (.ref p) H') : FrPost K O H Q ds := fun p xs np r => by
  have S1 : Same (fz O H) (fz (p :: O) (upd H p (.lst xs))) := fz_grow np (same_upd np)
  exact q p xs _ (R.grow np) (S0.trans S1) k0 (R.dom.ne np) (R.nB np) (R.own_ne (R.dom.ne np)) upd_same (r.mono S1)
def cFr2 (r : D → D → Option (List D)) (f g : M Od) : M (List D) := bnd f fun p => bnd g fun q => bnd (rdM p) fun d => bnd (rdM q) fun e => lft (r d e)
theorem df_bin {a b : Expr} {f g : M Od} {op : Operator} {r : D → D → Option (List D)} (ho : Fr2 X (binaryOp op) r) (ha : DO X a f) (hb : DO X b g) : DF X (.BinOp a op b pos) (cFr2 r f g) := by
  refine ⟨fun pins sh σ H Q I h => ?_⟩
  obtain ⟨F, O, s, z, s', R, hf, q⟩ := h
  obtain ⟨p, s1, h1, hf⟩ := bnd_inv hf
  obtain ⟨p', s2, h2, hf⟩ := bnd_inv hf
  obtain ⟨d, s3, h3, hf⟩ := bnd_inv hf
  obtain ⟨d1, e3, e4⟩ := rdM_inv h3
  cases e4
  obtain ⟨e, s4, h4, hf⟩ := bnd_inv hf
  obtain ⟨d2, e5, e6⟩ := rdM_inv h4
  cases e6
  obtain ⟨z', e7, e8⟩ := lft_inv hf
  cases e8
  refine wpAny_BinOp (thn (go ha I R h1) fun v sh1 ⟨x, H1, I1, rx, R1, S1, K1, o1⟩ => ?_)
  refine thn (go hb I1 R1 h2) fun u sh2 ⟨y, H2, I2, ry, R2, S2, K2, o2⟩ => ?_
  exact ho pins sh2 σ H2 O x y v u _ _ _ Q I2 rx ry ((OdOk.mono o1 S2).rd R2 e3) (OdOk.rd R2 o2 e5) e7 (fr_own R2 (Same.trans S1 S2) (K1.trans K2) q)
/-- [e, ..] -/
def cLst (f : M (List D)) : M (List D) := bnd f fun ds => shortM ds
theorem df_lst {es : List Expr} {f : M (List D)} (h : DA X es f) : DF X (.List es pos) (cLst f) := by
  refine ⟨fun pins sh σ H Q I hw => ?_⟩
  obtain ⟨F, O, s, a, s', R, hf, q⟩ := hw
  obtain ⟨ds, s1, h1, hf⟩ := bnd_inv hf
  obtain ⟨hz, e⟩ := shortM_inv hf
  cases e
  refine (pe_lst h).run pins sh σ H Q I ⟨F, O, s, _, _, R, h1, fun xs H1 a b k r => ⟨by rw [r.len]; exact hz, fun p np => ?_⟩⟩
  exact fr_own a b k q p xs np r

/-! ### statements -/
inductive Fl where
  | nx | bk | ct
  | rt (d : D)
def FlPost (K : PySem.W.Frag) (F : Fc) (O : List Addr) (H : Hp) (D : Ends) (s' : S) : Fl → Prop
  | .nx => ∀ σ' O' H', Rs K F O' H' σ' s' → Same (fz O H) (fz O' H') → D.nx σ' H'
  | .bk => ∀ σ' O' H', Rs K F O' H' σ' s' → Same (fz O H) (fz O' H') → D.bk σ' H'
  | .ct => ∀ σ' O' H', Rs K F O' H' σ' s' → Same (fz O H) (fz O' H') → D.ct σ' H'
  | .rt d => ∀ x σ' O' H', Rs K F O' H' σ' s' → Same (fz O H) (fz O' H') → Rp K (fz O' H') x d → D.rt x H'
theorem FlPost.after {K : PySem.W.Frag} {F : Fc} {O O1 : List Addr} {H H1 : Hp} {D : Ends} {s' : S} {fl : Fl} (q : FlPost K F O H D s' fl) (b : Same (fz O H) (fz O1 H1)) : FlPost K F O1 H1 D s' fl := by
  cases fl with
  | nx => exact fun u v w x y => q u v w x (b.trans y)
  | bk => exact fun u v w x y => q u v w x (b.trans y)
  | ct => exact fun u v w x y => q u v w x (b.trans y)
  | rt d => exact fun z u v w x y => q z u v w x (b.trans y)
def TGS (K : PySem.W.Frag) (g : M Fl) : TS := fun D σ H => ∃ (F : Fc) (O : List Addr) (s : S) (fl : Fl) (s' : S), Rs K F O H σ s ∧ g s = some (fl, s') ∧ FlPost K F O H D s' fl
abbrev DS (X : Cx) (st : Stmt) (g : M Fl) : Prop := PS X st (TGS X.K g)
abbrev DSs (X : Cx) (st : List Stmt) (g : M Fl) : Prop := PSs X st (TGS X.K g)
def skp : M Fl := ret .nx
def cSeq (f g : M Fl) : M Fl := bnd f fun fl => match fl with
  | .nx => g
  | .bk => ret .bk
  | .ct => ret .ct
  | .rt d => ret (.rt d)
theorem dss_nil : DSs X [] skp := by
  refine ⟨fun pins sh σ H D I h => ?_⟩
  obtain ⟨F, O, s, fl, s', R, hf, q⟩ := h
  cases hf
  exact pss_nil.run pins sh σ H D I (q σ O H R (Same.refl _))
theorem dss_cons {st : Stmt} {rest : List Stmt} {f g : M Fl} (h1 : DS X st f) (h2 : DSs X rest g) : DSs X (st :: rest) (cSeq f g) := by
  refine ⟨fun pins sh σ H D I h => ?_⟩
  obtain ⟨F, O, s, fl, s', R, hf, q⟩ := h
  obtain ⟨f1, s1, e1, e2⟩ := bnd_inv hf
  refine (pss_cons h1 h2).run pins sh σ H D I ⟨F, O, s, f1, s1, R, e1, ?_⟩
  cases f1 with
  | nx => exact fun σ' O' H' R' S' => ⟨F, O', s1, fl, s', R', e2, q.after S'⟩
  | bk => cases e2; exact q
  | ct => cases e2; exact q
  | rt d => cases e2; exact q
theorem dss_one {st : Stmt} {f : M Fl} (h1 : DS X st f) : DSs X [st] f := pss_one h1
theorem ds_pass : DS X (.Pass pos) skp := by
  refine ⟨fun pins sh σ H D I h => ?_⟩
  obtain ⟨F, O, s, fl, s', R, hf, q⟩ := h
  cases hf
  exact ps_pass.run pins sh σ H D I (q σ O H R (Same.refl _))
theorem ds_break : DS X (.Break pos) (ret .bk) := by
  refine ⟨fun pins sh σ H D I h => ?_⟩
  obtain ⟨F, O, s, fl, s', R, hf, q⟩ := h
  cases hf
  exact ps_break.run pins sh σ H D I (q σ O H R (Same.refl _))
theorem ds_never {st : Stmt} : DS X st (fun _ => none) := by
  refine ⟨fun pins sh σ H D I h => ?_⟩
  obtain ⟨F, O, s, fl, s', R, hf, q⟩ := h
  cases hf
def cRet (f : M D) : M Fl := bnd f fun d => ret (.rt d)
theorem ds_ret {e : Expr} {f : M D} (h : DE X e f) : DS X (.Return (some e) pos) (cRet f) := by
  refine ⟨fun pins sh σ H D I hw => ?_⟩
  obtain ⟨F, O, s, fl, s', R, hf, q⟩ := hw
  obtain ⟨d, s1, h1, h2⟩ := bnd_inv hf
  cases h2
  exact (ps_ret h).run pins sh σ H D I ⟨F, O, s, d, _, R, h1, fun x H' a b k r => q x σ O H' a b r⟩
def cDrop (f : M D) : M Fl := bnd f fun _ => ret .nx
theorem ds_expr {e : Expr} {f : M D} (h : DE X e f) (hs : swapsWith e none pos.line X.env = pure false := by rfl) : DS X (.Expr e pos) (cDrop f) := by
  refine ⟨fun pins sh σ H D I hw => ?_⟩
  obtain ⟨F, O, s, fl, s', R, hf, q⟩ := hw
  obtain ⟨d, s1, h1, h2⟩ := bnd_inv hf
  cases h2
  exact (ps_expr h hs).run pins sh σ H D I ⟨F, O, s, d, _, R, h1, fun x H' a b k r => q σ O H' a b⟩
theorem ds_if {c : Expr} {a b : List Stmt} {t : M Bool} {f g : M Fl} (ht : DT X c t) (ha : DSs X a f) (hb : DSs X b g) : DS X (.If c a b pos) (cIf t f g) := by
  refine ⟨fun pins sh σ H D I h => ?_⟩
  obtain ⟨F, O, s, fl, s', R, hf, q⟩ := h
  obtain ⟨d, s1, h1, h2⟩ := bnd_inv hf
  refine (ps_if ht ha hb).run pins sh σ H D I ⟨F, O, s, _, _, R, h1, fun H1 a b k => ?_⟩
  have fin : ∀ g' : M Fl, g' s1 = some (fl, s') → TGS X.K g' D σ H1 := fun g' e => ⟨F, O, s1, fl, s', a, e, q.after b⟩
  cases d with
  | true => exact iteT (fin _ h2)
  | false => exact iteF (fin _ h2)
def putM (i : Nat) (sl : Sl) : M Unit := fun s => if i < s.1.length then some ((), (s.1.set i (some sl), s.2)) else none
theorem putM_inv {i : Nat} {sl : Sl} {s : S} {p : Unit × S} (h : putM i sl s = some p) : i < s.1.length ∧ p = ((), (s.1.set i (some sl), s.2)) := by
  unfold putM at h
  split at h
  · rename_i z; cases h; exact ⟨z, rfl⟩
  · cases h
def cSet (i : Nat) (f : M D) : M Fl := bnd f fun d => bnd (putM i (.v d)) fun _ => ret .nx
theorem put_v {K : PySem.W.Frag} {F : Fc} {O : List Addr} {H : Hp} {σ : St} {s : S} {i : Nat} {x : V} {d : D} (R : Rs K F O H σ s) (hi : i < s.1.length) (r : Rp K (fz O H) x d) : Rs K F O H (σ.set i (some x)) (s.1.set i (some (.v d)), s.2) :=
  RepS.put R (by rw [← R.len]; exact hi) r fun z => by cases z
theorem put_l {K : PySem.W.Frag} {F : Fc} {O : List Addr} {H : Hp} {σ : St} {s : S} {i : Nat} {p : Addr} {xs : List V} {ds : List D} (R : Rs K F (p :: O) H σ s) (hi : i < s.1.length) (nb : p ∉ F.B) (ne : ∀ (i : Nat) sl, s.1[i]? = some (some sl) → sl.own = true → σ[i]? ≠ some (some (.ref p)))
    (hp : H p = some (.lst xs)) (r : RpA K (fz (p :: O) H) xs ds) : Rs K F (p :: O) H (σ.set i (some (.ref p))) (s.1.set i (some (.l ds)), s.2) :=
  RepS.put R (by rw [← R.len]; exact hi) ⟨p, xs, rfl, List.mem_cons_self, nb, hp, r⟩ fun _ j sj a _ e o z q => ne j sj e o (by cases z; exact q)
theorem cSet_inv {i : Nat} {f : M D} {s s' : S} {fl : Fl} (h : cSet i f s = some (fl, s')) : ∃ d s1, f s = some (d, s1) ∧ i < s1.1.length ∧ fl = .nx ∧ s' = (s1.1.set i (some (.v d)), s1.2) := by
  obtain ⟨d, s1, h1, h2⟩ := bnd_inv h
  obtain ⟨_, s2, h3, h4⟩ := bnd_inv h2
  obtain ⟨hi, e⟩ := putM_inv h3
  cases e
  cases h4
  exact ⟨d, s1, h1, hi, rfl, rfl⟩
theorem ds_set (i : Nat) {x : Str} {e : Expr} {f : M D} {pos' : Pos} (hN : X.N.Nodup) (h : DE X e f) (hi : X.N[i]? = some x := by rfl) (hx : Loc X.env.scope x := by first | exact Or.inl rfl | exact Or.inr rfl) (hs : swapsWith e (some (.Name x pos')) pos.line X.env = pure false := by rfl)
    (hf : X.fn x = true ∨ X.env.scope.names.lookup x = some .local := by first | exact .inl rfl | exact .inr rfl) : DS X (.Assign [.Name x pos'] e pos) (cSet i f) := by
  refine ⟨fun pins sh σ H D I hw => ?_⟩
  obtain ⟨F, O, s, fl, s', R, hw, q⟩ := hw
  obtain ⟨d, s1, h1, hl, e1, e2⟩ := cSet_inv hw
  subst e1 e2
  exact (ps_set hN hi hx h hs hf).run pins sh σ H D I ⟨F, O, s, d, _, R, h1, fun x H' a b k r => q _ O H' (put_v a hl r) b⟩
def cSetL (i : Nat) (f : M (List D)) : M Fl := bnd f fun d => bnd (putM i (.l d)) fun _ => ret .nx
theorem cSetL_inv {i : Nat} {f : M (List D)} {s s' : S} {fl : Fl} (h : cSetL i f s = some (fl, s')) : ∃ d s1, f s = some (d, s1) ∧ i < s1.1.length ∧ fl = .nx ∧ s' = (s1.1.set i (some (.l d)), s1.2) := by
  obtain ⟨d, s1, h1, h2⟩ := bnd_inv h
  obtain ⟨_, s2, h3, h4⟩ := bnd_inv h2
  obtain ⟨hi, e⟩ := putM_inv h3
  cases e
  cases h4
  exact ⟨d, s1, h1, hi, rfl, rfl⟩
theorem ds_setL (i : Nat) {x : Str} {e : Expr} {f : M (List D)} {pos' : Pos} (hN : X.N.Nodup) (h : DF X e f) (hi : X.N[i]? = some x := by rfl) (hx : Loc X.env.scope x := by first | exact Or.inl rfl | exact Or.inr rfl) (hs : swapsWith e (some (.Name x pos')) pos.line X.env = pure false := by rfl)
    (hf : X.fn x = true ∨ X.env.scope.names.lookup x = some .local := by first | exact .inl rfl | exact .inr rfl) : DS X (.Assign [.Name x pos'] e pos) (cSetL i f) := by
  refine ⟨fun pins sh σ H D I hw => ?_⟩
  obtain ⟨F, O, s, fl, s', R, hw, q⟩ := hw
  obtain ⟨d, s1, h1, hl, e1, e2⟩ := cSetL_inv hw
  subst e1 e2
  exact (ps_set hN hi hx h hs hf).run pins sh σ H D I ⟨F, O, s, d, _, R, h1, fun p xs H' a b k n nb ne hp r => q _ (p :: O) H' (put_l a hl nb ne hp r) b⟩
/-- an owned thing handed on: its name holds data from here -/
def relE (i : Nat) (env : DEnv) : DEnv := match env[i]? with
  | some (some (.l ds)) => env.set i (some (.v (.list ds)))
  | some (some (.k kds)) => env.set i (some (.v (.dict (kds.map fun p => (encK p.1, p.2)))))
  | some (some (.t kds)) => if kds.isEmpty then env.set i none else env.set i (some (.v (.dict (kds.map fun p => (encT p.1, p.2)))))
  | _ => env
theorem set_some_self {σ : St} {i : Nat} {x : V} (h : σ[i]? = some (some x)) : σ.set i (some x) = σ := by
  apply List.ext_getElem?
  intro j
  by_cases hj : i = j
  · subst hj
    rw [List.getElem?_set_self (List.getElem?_eq_some_iff.mp h).1, h]
  · rw [List.getElem?_set_ne hj]
theorem RepS.rel {K : PySem.W.Frag} {F : Fc} {O : List Addr} {H : Hp} {σ : St} {env : DEnv} {st : Src} (R : RepS K F O H σ env st) (i : Nat) : ∃ O', RepS K F O' H σ (relE i env) st ∧ Same (fz O H) (fz O' H) := by
  have main : ∀ (sl : Sl) (d : D) (a : Addr), env[i]? = some (some sl) → sl.own = true → σ[i]? = some (some (.ref a)) → a ∉ F.B → (∀ O', a ∉ O' → (∀ b ∈ O', b ∈ O) → Rp K (fz O' H) (.ref a) d) →
      ∃ O', RepS K F O' H σ (env.set i (some (.v d))) st ∧ Same (fz O H) (fz O' H) := fun sl d a e o hσ nb hr => by
    refine ⟨O.filter (fun b => decide (b ≠ a)), ?_, ?_⟩
    · have mem : ∀ {b : Addr}, b ∈ O.filter (fun b => decide (b ≠ a)) ↔ b ∈ O ∧ b ≠ a := by
        intro b; rw [List.mem_filter]; simp
      have hm : Same (fz O H) (fz (O.filter (fun b => decide (b ≠ a))) H) := fz_mono fun b hb => (mem.mp hb).1
      have R0 := R.drop i
      have R1 : RepS K F (O.filter (fun b => decide (b ≠ a))) H σ (env.set i none) st := by
        refine ⟨R0.len, fun j s' e' => ?_, R0.dist, R.src, R.saB, R.caB, fun b hb => mem.mpr ⟨R.sub b hb, fun z => nb (z ▸ hb)⟩, fun b hb => R.dom b (mem.mp hb).1, fun b hb => R.fresh b (mem.mp hb).1, R.old, R.oldB⟩
        have hij : j ≠ i := fun z => by
          subst z
          rw [List.getElem?_set_self (List.getElem?_eq_some_iff.mp e).1] at e'; cases e'
        have e2 : env[j]? = some (some s') := by rw [List.getElem?_set_ne (Ne.symm hij)] at e'; exact e'
        obtain ⟨x, hx, r⟩ := R.sl j s' e2
        refine ⟨x, hx, ?_⟩
        have ne : ∀ c, x = .ref c → s'.own = true → c ≠ a := fun c ex oj z => R.dist i j sl s' a (Ne.symm hij) e e2 o oj hσ (by rw [hx, ex, z])
        cases s' with
        | v d' => exact Rp.mono hm r
        | l ds =>
          obtain ⟨c, xs, e1, m, n, g, q⟩ := r
          exact ⟨c, xs, e1, mem.mpr ⟨m, ne c e1 rfl⟩, n, g, q.mono hm⟩
        | k ds =>
          obtain ⟨c, xs, e1, m, n, g, k, q⟩ := r
          exact ⟨c, xs, e1, mem.mpr ⟨m, ne c e1 rfl⟩, n, g, k, q.mono hm⟩
        | t ds =>
          obtain ⟨c, xs, e1, m, n, g, k, q⟩ := r
          exact ⟨c, xs, e1, mem.mpr ⟨m, ne c e1 rfl⟩, n, g, k, q.mono hm⟩
        | s => exact r
      have R2 := RepS.put (x := .ref a) (s := .v d) R1 (i := i) (List.getElem?_eq_some_iff.mp hσ).1 (hr _ (fun z => (mem.mp z).2 rfl) fun b hb => (mem.mp hb).1) fun z => by cases z
      rw [set_some_self hσ, List.set_set] at R2
      exact R2
    · exact fz_mono fun b hb => (List.mem_filter.mp hb).1
  cases e : env[i]? with
  | none => exact ⟨O, by unfold relE; rw [e]; exact R, Same.refl _⟩
  | some so =>
    cases so with
    | none => exact ⟨O, by unfold relE; rw [e]; exact R, Same.refl _⟩
    | some sl =>
      obtain ⟨x, hx, r⟩ := R.sl i sl e
      cases sl with
      | v d => exact ⟨O, by unfold relE; rw [e]; exact R, Same.refl _⟩
      | s => exact ⟨O, by unfold relE; rw [e]; exact R, Same.refl _⟩
      | l ds =>
        obtain ⟨a, xs, e1, m, n, g, q⟩ := r
        subst e1
        have := main (.l ds) (.list ds) a e rfl hx n fun O' na hs => .lst (fz_iff.mpr ⟨na, g⟩) (q.mono (fz_mono hs))
        unfold relE; rw [e]; exact this
      | k kds =>
        obtain ⟨a, kvs, e1, m, n, g, hk, q⟩ := r
        subst e1
        have := main (.k kds) (.dict (kds.map fun p => (encK p.1, p.2))) a e rfl hx n fun O' na hs => by rw [← zip_of encK hk]; exact .dK (fz_iff.mpr ⟨na, g⟩) (q.mono (fz_mono hs))
        unfold relE; rw [e]; exact this
      | t kds =>
        obtain ⟨a, kvs, e1, m, n, g, hk, q⟩ := r
        subst e1
        unfold relE; rw [e]
        show ∃ O', RepS K F O' H σ (if kds.isEmpty = true then env.set i none else env.set i (some (.v (.dict (kds.map fun p => (encT p.1, p.2)))))) st ∧ _
        by_cases hne : kds.isEmpty = true
        · rw [if_pos hne]
          exact ⟨O, R.drop i, Same.refl _⟩
        · rw [if_neg hne]
          exact main (.t kds) (.dict (kds.map fun p => (encT p.1, p.2))) a e rfl hx n fun O' na hs => by rw [← zip_of encT hk]; exact .dT (fz_iff.mpr ⟨na, g⟩) (ne_of_keys hk hne) (q.mono (fz_mono hs))
def cRel (i : Nat) (g : M Fl) : M Fl := fun s => g (relE i s.1, s.2)
theorem ds_rel (i : Nat) {st : Stmt} {g : M Fl} (h : DS X st g) : DS X st (cRel i g) := by
  refine ⟨fun pins sh σ H D I hw => ?_⟩
  obtain ⟨F, O, s, fl, s', R, hf, q⟩ := hw
  obtain ⟨O', R', S'⟩ := RepS.rel R i
  exact h.run pins sh σ H D I ⟨F, O', (relE i s.1, s.2), fl, s', R', hf, q.after S'⟩
/-! ### targets -/
def TGG (K : PySem.W.Frag) (slots : List Nat) (g : D → DEnv → Option DEnv) : L2.TG := fun x σ H Q => ∃ (F : Fc) (O : List Addr) (s : S) (d : D) (env' : DEnv), Rs K F O H σ s ∧ Rp K (fz O H) x d ∧ g d s.1 = some env' ∧
  ∀ σ', Rs K F O H σ' (env', s.2) → (∀ vs : List Nat, (∀ i ∈ slots, i ∈ vs) → wipe σ' vs = wipe σ vs) → Q σ' H
abbrev DG (X : Cx) (tg : Expr) (slots : List Nat) (g : D → DEnv → Option DEnv) : Prop := PG X tg (TGG X.K slots g)
theorem wipe_set {x : Option V} : ∀ {vs : List Nat} {σ : St} {i : Nat}, i ∈ vs → wipe (σ.set i x) vs = wipe σ vs
  | [], _, _, h => by cases h
  | v :: vs, σ, i, h => by
    by_cases hv : i ∈ vs
    · unfold wipe; rw [wipe_set hv]
    · have e : i = v := by
        rcases List.mem_cons.mp h with z | z
        · exact z
        · exact absurd z hv
      subst e
      have gen : ∀ (vs : List Nat) (σ : St), i ∉ vs → wipe (σ.set i x) vs = (wipe σ vs).set i x := by
        intro vs
        induction vs with
        | nil => intro σ _; rfl
        | cons w ws ih =>
          intro σ hn
          have h1 : i ≠ w := fun z => hn (z ▸ List.mem_cons_self)
          have h2 : i ∉ ws := fun z => hn (List.mem_cons_of_mem _ z)
          unfold wipe
          rw [ih σ h2, List.set_comm _ _ h1]
      unfold wipe
      rw [gen vs σ hv, List.set_set]
def gSet (i : Nat) : D → DEnv → Option DEnv := fun d env => if i < env.length then some (env.set i (some (.v d))) else none
theorem dg_name (i : Nat) {x : Str} (hN : X.N.Nodup) (hi : X.N[i]? = some x := by rfl) (hx : Loc X.env.scope x := by first | exact Or.inl rfl | exact Or.inr rfl) (hf : X.fn x = true ∨ X.env.scope.names.lookup x = some .local := by first | exact .inl rfl | exact .inr rfl) : DG X (.Name x pos) [i] (gSet i) := by
  refine ⟨fun pins sh σ H v u Q I r h => ?_⟩
  obtain ⟨F, O, s, d, env', R, hr, hg, q⟩ := h
  unfold gSet at hg
  split at hg
  · rename_i hl
    cases hg
    exact (pg_name hN hi hx hf).run pins sh σ H v u Q I r (q _ (put_v R hl hr) fun vs hv => wipe_set (hv i (by simp)))
  · cases hg
/-- several targets -/
def TGGs (K : PySem.W.Frag) (slots : List Nat) (g : List D → DEnv → Option DEnv) : TGs := fun xs σ H Q => ∃ (F : Fc) (O : List Addr) (s : S) (ds : List D) (env' : DEnv), Rs K F O H σ s ∧ RpA K (fz O H) xs ds ∧ g ds s.1 = some env' ∧
  ∀ σ', Rs K F O H σ' (env', s.2) → (∀ vs : List Nat, (∀ i ∈ slots, i ∈ vs) → wipe σ' vs = wipe σ vs) → Q σ' H
abbrev DGs (X : Cx) (tg : List Expr) (slots : List Nat) (g : List D → DEnv → Option DEnv) : Prop := PGs X tg (TGGs X.K slots g)
def gNils : List D → DEnv → Option DEnv := fun ds env => match ds with
  | [] => some env
  | _ => none
def gConss (g : D → DEnv → Option DEnv) (h : List D → DEnv → Option DEnv) : List D → DEnv → Option DEnv := fun ds env => match ds with
  | [] => none
  | d :: r => match g d env with
    | none => none
    | some env' => h r env'
theorem dgs_nil : DGs X [] [] gNils := by
  refine ⟨fun pins sh σ H vs us Q I r h => ?_⟩
  obtain ⟨F, O, s, ds, env', R, hr, hg, q⟩ := h
  unfold gNils at hg
  split at hg
  · cases hg
    cases hr
    exact pgs_nil.run pins sh σ H _ us Q I r ⟨rfl, q σ R fun _ _ => rfl⟩
  · cases hg
theorem dgs_cons {e : Expr} {es : List Expr} {sl sls : List Nat} {g : D → DEnv → Option DEnv} {gs : List D → DEnv → Option DEnv} (h1 : DG X e sl g) (h2 : DGs X es sls gs)
    (hs : (assignEach (e :: es) X.env).map (·.2) = assign e X.env :: (assignEach es X.env).map (·.2) := by rfl) : DGs X (e :: es) (sl ++ sls) (gConss g gs) := by
  refine ⟨fun pins sh σ H vs us Q I r h => ?_⟩
  obtain ⟨F, O, s, ds, env', R, hr, hg, q⟩ := h
  cases hr with
  | nil => cases hg
  | cons a b =>
    rename_i v vs d ds
    have hg' : (match g d s.1 with | none => none | some env1 => gs ds env1) = some env' := hg
    cases e1 : g d s.1 with
    | none => rw [e1] at hg'; cases hg'
    | some env1 =>
      rw [e1] at hg'
      refine (pgs_cons h1 h2 hs).run pins sh σ H _ us Q I r ⟨v, vs, rfl, F, O, s, d, env1, R, a, e1, fun σ1 R1 w1 => ?_⟩
      exact ⟨F, O, (env1, s.2), ds, env', R1, b, hg', fun σ2 R2 w2 => q σ2 R2 fun ws hw => (w2 ws fun i hi => hw i (List.mem_append_right _ hi)).trans (w1 ws fun i hi => hw i (List.mem_append_left _ hi))⟩
def seqOf : D → Option (List D)
  | .list ds => some ds
  | .tuple ds => some ds
  | _ => none
def gTupD (n : Nat) (g : List D → DEnv → Option DEnv) : D → DEnv → Option DEnv := fun d env => match seqOf d with
  | some ds => if ds.length = n then g ds env else none
  | none => none
theorem dg_tup {es : List Expr} {k : Nat} {sls : List Nat} {g : List D → DEnv → Option DEnv} {n : Nat} (hc : X.calm = true) (h : DGs X es sls g)
    (hn : (assignEach es X.env).length = n := by rfl) (hst : (assignEach es X.env).findIdx? (·.1) = none := by rfl) : DG X (.Tuple es k pos) sls (gTupD n g) := by
  refine ⟨fun pins sh σ H v u Q I r hw => ?_⟩
  obtain ⟨F, O, s, d, env', R, hr, hg, q⟩ := hw
  unfold gTupD at hg
  split at hg
  · rename_i ds e0
    split at hg
    · rename_i hl
      unfold seqOf at e0
      split at e0
      · cases e0
        obtain ⟨a, xs, e1, hq, ha⟩ := hr.list_inv
        subst e1
        exact (pg_unl hc h hn hst).run pins sh σ H _ u Q I r ⟨a, xs, rfl, SqL.of (fz_le _ _ hq), by rw [ha.len]; exact hl, F, O, s, ds, env', R, ha, hg, q⟩
      · cases e0
        obtain ⟨a, xs, e1, hq, ha⟩ := hr.tup_inv
        subst e1
        exact (pg_tup hc h hn hst).run pins sh σ H _ u Q I r ⟨a, xs, rfl, hq.le.sq, by rw [ha.len]; exact hl, F, O, s, ds, env', R, ha, hg, q⟩
      · cases e0
    · cases hg
  · cases hg
/-- target = e -/
def cAsg (f : M D) (g : D → DEnv → Option DEnv) : M Fl := bnd f fun d s => match g d s.1 with
  | none => none
  | some env' => some (.nx, (env', s.2))
theorem ds_asg {tg e : Expr} {f : M D} {sls : List Nat} {g : D → DEnv → Option DEnv} (h : DE X e f) (hg : DG X tg sls g) (hs : swapsWithSole [tg] e pos.line X.env = pure false := by rfl) (hw : swappedStores [tg] e X.env = pure none := by rfl)
    (h1 : (assignEach [tg] X.env).map (·.2) = [assign tg X.env] := by rfl) : DS X (.Assign [tg] e pos) (cAsg f g) := by
  refine ⟨fun pins sh σ H D I hh => ?_⟩
  obtain ⟨F, O, s, fl, s', R, hf, q⟩ := hh
  obtain ⟨d, s1, e1, e2⟩ := bnd_inv hf
  cases e3 : g d s1.1 with
  | none =>
    rw [e3] at e2; cases e2
  | some env' =>
    rw [e3] at e2
    cases e2
    exact (ps_asg h hg hs hw h1).run pins sh σ H D I ⟨F, O, s, d, s1, R, e1, fun x H' a b k r => ⟨F, O, s1, d, env', a, r, e3, fun σ' R' _ => q σ' O H' R' b⟩⟩
end
end DL
set_option Elab.async false
set_option linter.all false
set_option maxRecDepth 100000
set_option maxHeartbeats 1000000
/-! DL3: loops, comprehensions, what owned lists and dicts do, two names at once. -/
namespace DL
open PySem PySem.Spec L2
open PyProof.Rows hiding St
variable [Zm]

/-! ### while -/
/-- behind a turn -/
def flK (nxt : M Fl) : Fl → M Fl
  | .nx => nxt
  | .ct => nxt
  | .bk => ret .nx
  | .rt d => ret (.rt d)
def whF (t : M Bool) (g : M Fl) : Nat → M Fl
  | 0 => fun _ => none
  | n + 1 => cIf t (bnd g (flK (whF t g n))) (ret .nx)
theorem whF_succ {t : M Bool} {g : M Fl} {n : Nat} {s : S} : whF t g (n + 1) s = bnd t (fun b => if b then bnd g (flK (whF t g n)) else ret .nx) s := by
  rw [whF]
  rfl
theorem whF_up {t : M Bool} {g : M Fl} : ∀ {n : Nat} {s : S} {r : Fl × S}, whF t g n s = some r → whF t g (n + 1) s = some r
  | 0, _, _, h => by cases h
  | n + 1, s, r, h => by
    rw [whF_succ] at h
    obtain ⟨b, s1, h1, h2⟩ := bnd_inv h
    rw [whF_succ, bnd_eq h1]
    cases b with
    | false => exact h2
    | true =>
      have h2 : bnd g (flK (whF t g n)) s1 = some r := h2
      obtain ⟨fl, s2, h3, h4⟩ := bnd_inv h2
      show bnd g (flK (whF t g (n + 1))) s1 = some r
      rw [bnd_eq h3]
      cases fl with
      | nx => exact whF_up h4
      | ct => exact whF_up h4
      | bk => exact h4
      | rt d => exact h4
theorem whF_add {t : M Bool} {g : M Fl} {n : Nat} {s : S} {r : Fl × S} (h : whF t g n s = some r) : ∀ k, whF t g (n + k) s = some r
  | 0 => h
  | k + 1 => whF_up (whF_add h k)
theorem whF_det {t : M Bool} {g : M Fl} {n m : Nat} {s : S} {r r' : Fl × S} (h : whF t g n s = some r) (h' : whF t g m s = some r') : r = r' := by
  have a := whF_add h m
  have b := whF_add h' n
  rw [Nat.add_comm m n] at b
  rw [a] at b
  exact Option.some.inj b
open Classical in
noncomputable def cWhile (t : M Bool) (g : M Fl) : M Fl := fun s => if h : ∃ r, ∃ n, whF t g n s = some r then some h.choose else none
theorem cWhile_eq {t : M Bool} {g : M Fl} {n : Nat} {s : S} {r : Fl × S} (h : whF t g n s = some r) : cWhile t g s = some r := by
  have hx : ∃ r, ∃ n, whF t g n s = some r := ⟨r, n, h⟩
  unfold cWhile
  rw [dif_pos hx]
  obtain ⟨m, hm⟩ := hx.choose_spec
  rw [whF_det hm h]
theorem cWhile_inv {t : M Bool} {g : M Fl} {s : S} {r : Fl × S} (h : cWhile t g s = some r) : ∃ n, whF t g n s = some r := by
  unfold cWhile at h
  split at h
  · rename_i hx
    obtain ⟨m, hm⟩ := hx.choose_spec
    cases h
    exact ⟨m, hm⟩
  · cases h
section
variable {X : Cx} {pos : Pos}
theorem ds_while {c : Expr} {body : List Stmt} {t : M Bool} {g : M Fl} (hp : PassesOwn (model X.prog X.w) X.A X.env X.xe) (ht : DT X c t) (hb : DSs X body g) : DS X (.While c body [] pos) (cWhile t g) := by
  refine ⟨fun pins sh σ H D I h => ?_⟩
  obtain ⟨F, O, s, fl, s', R, hf, q⟩ := h
  obtain ⟨n, hn⟩ := cWhile_inv hf
  refine (ps_while hp ht hb).run pins sh σ H D I ⟨fun n σ1 H1 => ∃ O1 s1, Rs X.K F O1 H1 σ1 s1 ∧ Same (fz O H) (fz O1 H1) ∧ whF t g n s1 = some (fl, s'), ⟨n, O, s, R, Same.refl _, hn⟩, ?_⟩
  rintro m σ1 H1 ⟨O1, s1, R1, S1, e⟩
  cases m with
  | zero => cases e
  | succ m =>
    rw [whF_succ] at e
    obtain ⟨b, s2, e1, e2⟩ := bnd_inv e
    refine ⟨F, O1, s1, b, s2, R1, e1, fun H2 R2 S2 _ => ?_⟩
    cases b with
    | false =>
      have e2 : ret Fl.nx s2 = some (fl, s') := e2
      cases e2
      exact iteF (q σ1 O1 H2 R2 (S1.trans S2))
    | true =>
      have e2 : bnd g (flK (whF t g m)) s2 = some (fl, s') := e2
      obtain ⟨f2, s3, e3, e4⟩ := bnd_inv e2
      refine iteT ⟨fun σ' H' => ∃ O1 s1, Rs X.K F O1 H' σ' s1 ∧ Same (fz O H) (fz O1 H') ∧ whF t g m s1 = some (fl, s'), fun σ' H' w => ⟨m, Nat.lt_succ_self m, w⟩, F, O1, s2, f2, s3, R2, e3, ?_⟩
      cases f2 with
      | nx => exact fun σ' O' H' R' S' => ⟨O', s3, R', S1.trans (S2.trans S'), e4⟩
      | ct => exact fun σ' O' H' R' S' => ⟨O', s3, R', S1.trans (S2.trans S'), e4⟩
      | bk =>
        cases e4
        exact fun σ' O' H' R' S' => q σ' O' H' R' (S1.trans (S2.trans S'))
      | rt d =>
        cases e4
        exact fun x σ' O' H' R' S' r => q x σ' O' H' R' (S1.trans (S2.trans S')) r

/-! ### for -/
/-- the iterator hands out these data -/
def Yl (K : PySem.W.Frag) (O : List Addr) (H1 : Hp) (J : It) (items : List D) : Prop := ∀ (O' : List Addr) (H : Hp), Same (fz O H1) (fz O' H) → Dom O' H →
  (∀ (i : Nat) d, items[i]? = some d → J.go i H ∧ ∀ x H', J.yld i H x H' → Same H H' ∧ Rp K (fz O' H') x d) ∧ J.stop items.length H
def TGI (K : PySem.W.Frag) (f : M (List D)) : TI := fun σ H Rr => ∃ (F : Fc) (O : List Addr) (s : S) (items : List D) (s' : S), Rs K F O H σ s ∧ f s = some (items, s') ∧
  ∀ J H', Rs K F O H' σ s' → Same (fz O H) (fz O H') → Kn s.1 s'.1 → Yl K O H' J items → Rr J H'
abbrev DI (X : Cx) (tg iter : Expr) (f : M (List D)) : Prop := PI X tg iter (TGI X.K f)
def forL (g : D → DEnv → Option DEnv) (b : M Fl) : List D → M Fl
  | [] => ret .nx
  | x :: xs => fun s => match g x s.1 with
    | none => none
    | some env' => bnd b (flK (forL g b xs)) (env', s.2)
def cFor (it : M (List D)) (g : D → DEnv → Option DEnv) (b : M Fl) : M Fl := bnd it fun xs => forL g b xs
theorem ds_for {tg iter : Expr} {body : List Stmt} {it : M (List D)} {sls : List Nat} {g : D → DEnv → Option DEnv} {b : M Fl} (hp : PassesOwn (model X.prog X.w) X.A X.env X.xe) (hc : X.calm = true) (hi : DI X tg iter it) (hg : DG X tg sls g) (hb : DSs X body b)
    (hs : ∀ x, foldedSetIterable iter X.env x = pure x := by intro _; rfl) : DS X (.For tg iter body [] pos) (cFor it g b) := by
  refine ⟨fun pins sh σ H D I h => ?_⟩
  obtain ⟨F, O, s, fl, s', R, hf, q⟩ := h
  obtain ⟨items, s1, e1, e2⟩ := bnd_inv hf
  refine (ps_for hp hc hi hg hb hs).run pins sh σ H D I ⟨F, O, s, items, s1, R, e1, fun J H1 R1 S1 _ hJ => ?_⟩
  refine ⟨fun i m σ2 H2 => m = items.length - i ∧ i ≤ items.length ∧ ∃ O2 s2, Rs X.K F O2 H2 σ2 s2 ∧ Same (fz O H1) (fz O2 H2) ∧ forL g b (items.drop i) s2 = some (fl, s'), ⟨_, rfl, Nat.zero_le _, O, s1, R1, Same.refl _, e2⟩, ?_⟩
  rintro i m σ2 H2 ⟨rfl, hil, O2, s2, R2, S2, e⟩
  obtain ⟨hgo, hst⟩ := hJ O2 H2 S2 R2.dom
  by_cases hlt : i < items.length
  · right
    have hd : items.drop i = items[i] :: items.drop (i + 1) := by rw [List.drop_eq_getElem_cons hlt]
    obtain ⟨g1, g2⟩ := hgo i items[i] (by rw [List.getElem?_eq_getElem hlt])
    refine ⟨g1, fun σ3 H3 => ∃ O3 s3, Rs X.K F O3 H3 σ3 s3 ∧ Same (fz O H1) (fz O3 H3) ∧ forL g b (items.drop (i + 1)) s3 = some (fl, s'), fun σ3 H3 w => ⟨items.length - (i + 1), by omega, rfl, hlt, w⟩, fun x H3 y => ?_⟩
    obtain ⟨S3, r3⟩ := g2 x H3 y
    rw [hd] at e
    unfold forL at e
    cases e3 : g items[i] s2.1 with
    | none => simp only [e3] at e; cases e
    | some env' =>
      simp only [e3] at e
      have e' : bnd b (flK (forL g b (items.drop (i + 1)))) (env', s2.2) = some (fl, s') := e
      obtain ⟨f2, s4, e4, e5⟩ := bnd_inv e'
      refine ⟨F, O2, s2, items[i], env', R2.ext S3, r3, e3, fun σ4 R4 _ => ⟨F, O2, _, f2, s4, R4, e4, ?_⟩⟩
      have S4 : Same (fz O H1) (fz O2 H3) := S2.trans (fz_same S3)
      cases f2 with
      | nx => exact fun σ' O' H' R' S' => ⟨O', s4, R', S4.trans S', e5⟩
      | ct => exact fun σ' O' H' R' S' => ⟨O', s4, R', S4.trans S', e5⟩
      | bk =>
        cases e5
        exact fun σ' O' H' R' S' => q σ' O' H' R' (S1.trans (S4.trans S'))
      | rt d =>
        cases e5
        exact fun x σ' O' H' R' S' r => q x σ' O' H' R' (S1.trans (S4.trans S')) r
  · have hi' : i = items.length := by omega
    subst hi'
    left
    rw [List.drop_length] at e
    have e' : ret Fl.nx s2 = some (fl, s') := e
    cases e'
    exact ⟨hst, q σ2 O2 H2 R2 (S1.trans S2)⟩
/-! what is walked -/
theorem PI.or {tg it : Expr} {w1 w2 : TI} (h1 : PI X tg it w1) (h2 : PI X tg it w2) : PI X tg it (fun σ H R => w1 σ H R ∨ w2 σ H R) :=
  ⟨fun pins s σ H R I h => h.elim (h1.run pins s σ H R I) (h2.run pins s σ H R I)⟩
theorem PI.imp {tg it : Expr} {w1 w2 : TI} (h1 : PI X tg it w1) (h : ∀ σ H R, w2 σ H R → w1 σ H R) : PI X tg it w2 :=
  ⟨fun pins s σ H R I hw => h1.run pins s σ H R I (h _ _ _ hw)⟩
def seqM (d : D) : M (List D) := fun s => match d with
  | .list ds => some (ds, s)
  | .tuple ds => some (ds, s)
  | _ => none
theorem seqM_inv {d : D} {s : S} {p : List D × S} (h : seqM d s = some p) : (d = .list p.1 ∨ d = .tuple p.1) ∧ p.2 = s := by
  unfold seqM at h
  split at h
  · cases h; exact ⟨.inl rfl, rfl⟩
  · cases h; exact ⟨.inr rfl, rfl⟩
  · cases h
theorem yl_list {K : PySem.W.Frag} {O : List Addr} {H1 : Hp} {a : Addr} {xs : List V} {ds : List D} (h : fz O H1 a = some (.lst xs)) (r : RpA K (fz O H1) xs ds) : Yl K O H1 (Itl K a) ds := fun O' H S dm => by
  have e := (fz_iff.mp (S _ _ h)).2
  refine ⟨fun i d hi => ?_, ⟨xs, SqL.of e, by rw [r.len]; exact Nat.le_refl _⟩⟩
  obtain ⟨x, hx, rx⟩ := r.get hi
  refine ⟨⟨xs, x, SqL.of e, hx⟩, fun y H' ⟨e1, e2⟩ => ?_⟩
  subst e1
  have e3 := e2 xs (SqL.of e)
  rw [hx] at e3
  cases e3
  exact ⟨Same.refl _, rx.mono S⟩
theorem yl_tup {K : PySem.W.Frag} {O : List Addr} {H1 : Hp} {a : Addr} {xs : List V} {ds : List D} (h : TupAt Zm.z (fz O H1) a xs) (r : RpA K (fz O H1) xs ds) : Yl K O H1 (Itt K a) ds := fun O' H S dm => by
  have e : SqT K H a xs := (h.at fun u e => S _ u e).le.sq
  refine ⟨fun i d hi => ?_, ⟨xs, e, by rw [r.len]; exact Nat.le_refl _⟩⟩
  obtain ⟨x, hx, rx⟩ := r.get hi
  refine ⟨⟨xs, x, e, hx⟩, fun y H' ⟨e1, e2⟩ => ?_⟩
  subst e1
  have e3 := e2 xs e
  rw [hx] at e3
  cases e3
  exact ⟨Same.refl _, rx.mono S⟩
def cSeqI (f : M D) : M (List D) := bnd f seqM
theorem di_seq {tg e : Expr} {f : M D} (h : DE X e f) : DI X tg e (cSeqI f) := by
  refine PI.imp (PI.or (pi_list (tg := tg) h) (pi_tup (tg := tg) h)) fun σ H Rr hw => ?_
  obtain ⟨F, O, s, items, s', R, hf, q⟩ := hw
  obtain ⟨d, s1, e1, e2⟩ := bnd_inv hf
  obtain ⟨e3, e4⟩ := seqM_inv e2
  have e4 : s' = s1 := e4
  subst e4
  rcases e3 with e3 | e3
  · subst e3
    refine .inl ⟨F, O, s, _, _, R, e1, fun x H' a b k r => ?_⟩
    obtain ⟨p, xs, e5, g, ra⟩ := r.list_inv
    exact ⟨p, e5, ⟨xs, SqL.of (fz_le _ _ g)⟩, q _ H' a b k (yl_list g ra)⟩
  · subst e3
    refine .inr ⟨F, O, s, _, _, R, e1, fun x H' a b k r => ?_⟩
    obtain ⟨p, xs, e5, g, ra⟩ := r.tup_inv
    exact ⟨p, e5, ⟨xs, g.le.sq⟩, q _ H' a b k (yl_tup g ra)⟩
def rangeD (lo : Int) (n : Nat) : List D := (List.range n).map fun (i : Nat) => PyData.int (lo + (i : Int))
theorem yl_range {K : PySem.W.Frag} {O : List Addr} {H1 : Hp} {lo : Int} {n : Nat} : Yl K O H1 (Itr lo n) (rangeD lo n) := fun O' H S dm => by
  refine ⟨fun i d hi => ?_, by unfold rangeD; show n ≤ _; simp⟩
  unfold rangeD at hi
  rw [List.getElem?_map] at hi
  by_cases hn : i < n
  · rw [List.getElem?_range hn] at hi
    cases hi
    refine ⟨hn, fun y H' ⟨e1, e2⟩ => ?_⟩
    subst e1 e2
    exact ⟨Same.refl _, .int _⟩
  · rw [List.getElem?_eq_none (by simp; omega)] at hi
    cases hi
def rng1M (ds : List D) : M (List D) := fun s => match ds with
  | [.int j] => if -(2 ^ 62) ≤ j ∧ j < 2 ^ 62 then some (rangeD 0 j.toNat, s) else none
  | _ => none
def rng2M (ds : List D) : M (List D) := fun s => match ds with
  | [.int i, .int j] => if -(2 ^ 62) ≤ i ∧ i < 2 ^ 62 ∧ -(2 ^ 62) ≤ j ∧ j < 2 ^ 62 then some (rangeD i (j - i).toNat, s) else none
  | _ => none
theorem di_range1 {tg a : Expr} {f : M (List D)} {p : Pos} (hg : Gl X "range") (hm : X.mg "range" = none) (ha : DA X [a] f) (hs : starEach [a] X.env = [(false, eval a X.env)] := by rfl) : DI X tg (.Call (.Name "range" p) [a] [] pos) (bnd f rng1M) := by
  refine PI.imp (pi_range1 hg hm ha hs) fun σ H Rr hw => ?_
  obtain ⟨F, O, s, items, s', R, hf, q⟩ := hw
  obtain ⟨ds, s1, e1, e2⟩ := bnd_inv hf
  refine ⟨F, O, s, ds, s1, R, e1, fun xs H' a b k r => ?_⟩
  unfold rng1M at e2
  split at e2
  · rename_i j
    split at e2
    · rename_i hj
      cases e2
      cases r with
      | cons r1 r2 =>
        cases r2
        rw [r1.int_inv]
        exact ⟨j, rfl, hj.1, hj.2, q _ H' a b k yl_range⟩
    · cases e2
  · cases e2
theorem di_range2 {tg a c : Expr} {f : M (List D)} {p : Pos} (hg : Gl X "range") (hm : X.mg "range" = none) (ha : DA X [a, c] f) (hs : starEach [a, c] X.env = [(false, eval a X.env), (false, eval c X.env)] := by rfl) (hs2 : starEach [c] X.env = [(false, eval c X.env)] := by rfl) : DI X tg (.Call (.Name "range" p) [a, c] [] pos) (bnd f rng2M) := by
  refine PI.imp (pi_range2 hg hm ha hs hs2) fun σ H Rr hw => ?_
  obtain ⟨F, O, s, items, s', R, hf, q⟩ := hw
  obtain ⟨ds, s1, e1, e2⟩ := bnd_inv hf
  refine ⟨F, O, s, ds, s1, R, e1, fun xs H' a b k r => ?_⟩
  unfold rng2M at e2
  split at e2
  · rename_i i j
    split at e2
    · rename_i hj
      cases e2
      cases r with
      | cons r1 r2 =>
        cases r2 with
        | cons r2 r3 =>
          cases r3
          rw [r1.int_inv, r2.int_inv]
          exact ⟨i, j, rfl, hj, q _ H' a b k yl_range⟩
    · cases e2
  · cases e2

/-! ### comprehensions -/
def wipeE (env : DEnv) : List Nat → DEnv
  | [] => env
  | v :: vs => (wipeE env vs).set v none
def keepV : Option (Option Sl) → Option Sl
  | some (some (.v d)) => some (.v d)
  | some (some .s) => some .s
  | _ => none
/-- the block's names as they were ahead of it -/
def restE (e1 : DEnv) : List Nat → DEnv → DEnv
  | [], e => e
  | v :: vs, e => (restE e1 vs e).set v (keepV e1[v]?)
theorem RepS.wipe {K : PySem.W.Frag} {F : Fc} {O : List Addr} {H : Hp} {σ : St} {env : DEnv} {st : Src} (R : RepS K F O H σ env st) : ∀ vs : List Nat, RepS K F O H (L2.wipe σ vs) (wipeE env vs) st
  | [] => R
  | v :: vs => by
    have R1 := (RepS.wipe R vs).drop v
    have g : ∀ (j : Nat) s, ((wipeE env vs).set v none)[j]? = some (some s) → j ≠ v := fun j s e z => by
      subst z
      by_cases hl : j < (wipeE env vs).length
      · rw [List.getElem?_set_self hl] at e; cases e
      · rw [List.getElem?_eq_none (by simpa using hl)] at e; cases e
    refine ⟨by show (List.set _ _ _).length = (List.set _ _ _).length; rw [List.length_set, List.length_set]; exact (RepS.wipe R vs).len, fun j s e => ?_, fun i j si sj a n e1 e2 o1 o2 q1 q2 => ?_, R.src, R.saB, R.caB, R.sub, R.dom, R.fresh, R.old, R.oldB⟩
    · obtain ⟨x, hx, r⟩ := R1.sl j s e
      exact ⟨x, by show (List.set _ _ _)[j]? = _; rw [List.getElem?_set_ne (Ne.symm (g j s e))]; exact hx, r⟩
    · have q1 : ((L2.wipe σ vs).set v none)[i]? = some (some (V.ref a)) := q1
      have q2 : ((L2.wipe σ vs).set v none)[j]? = some (some (V.ref a)) := q2
      rw [List.getElem?_set_ne (Ne.symm (g i si e1))] at q1
      rw [List.getElem?_set_ne (Ne.symm (g j sj e2))] at q2
      exact R1.dist i j si sj a n e1 e2 o1 o2 q1 q2
theorem wipe_get {σ : St} {j : Nat} : ∀ {vs : List Nat} {y : Option V}, j ∉ vs → (wipe σ vs)[j]? = some y → σ[j]? = some y
  | [], _, _, h => h
  | v :: vs, y, n, h => by
    have h' : ((wipe σ vs).set v none)[j]? = some y := h
    rw [List.getElem?_set_ne (fun z : v = j => n (z ▸ List.mem_cons_self))] at h'
    exact wipe_get (fun z => n (List.mem_cons_of_mem _ z)) h'
theorem wipe_none {σ : St} {j : Nat} {x : V} : ∀ {vs : List Nat}, j ∈ vs → (wipe σ vs)[j]? ≠ some (some x) := fun {vs} h e => (wipe_some e).2 h
theorem restE_len (e1 : DEnv) : ∀ (vs : List Nat) (e : DEnv), (restE e1 vs e).length = e.length
  | [], _ => rfl
  | v :: vs, e => by show (List.set _ _ _).length = _; rw [List.length_set]; exact restE_len e1 vs e
theorem restE_get {e1 : DEnv} {j : Nat} {s : Sl} : ∀ {vs : List Nat} {e : DEnv}, (restE e1 vs e)[j]? = some (some s) → (e1[j]? = some (some s) ∧ s.own = false ∧ j ∈ vs) ∨ (j ∉ vs ∧ e[j]? = some (some s))
  | [], e, h => .inr ⟨by simp, h⟩
  | v :: vs, e, h => by
    have h' : ((restE e1 vs e).set v (keepV e1[v]?))[j]? = some (some s) := h
    by_cases hj : v = j
    · subst hj
      have hl : v < (restE e1 vs e).length := by
        have := (List.getElem?_eq_some_iff.mp h').1
        simpa using this
      rw [List.getElem?_set_self hl] at h'
      have h2 : keepV e1[v]? = some s := Option.some.inj h'
      left
      unfold keepV at h2
      split at h2
      · rename_i d q
        cases h2
        exact ⟨q, rfl, List.mem_cons_self⟩
      · rename_i q
        cases h2
        exact ⟨q, rfl, List.mem_cons_self⟩
      · cases h2
    · rw [List.getElem?_set_ne hj] at h'
      rcases restE_get h' with ⟨a, b, c⟩ | ⟨a, b⟩
      · exact .inl ⟨a, b, List.mem_cons_of_mem _ c⟩
      · exact .inr ⟨fun z => (List.mem_cons.mp z).elim (fun w => hj w.symm) a, b⟩
/-- behind a block -/
theorem RepS.rest {K : PySem.W.Frag} {F : Fc} {O : List Addr} {H1 H : Hp} {σ : St} {e1 env : DEnv} {st1 st : Src} {vs : List Nat} (R1 : RepS K F O H1 σ e1 st1) (R : RepS K F O H (L2.wipe σ vs) env st) (S1 : Same (fz O H1) (fz O H)) :
    RepS K F O H σ (restE e1 vs env) st := by
  have ownr : ∀ (j : Nat) s, (restE e1 vs env)[j]? = some (some s) → s.own = true → j ∉ vs ∧ env[j]? = some (some s) := fun j s e o => by
    rcases restE_get e with ⟨a, b, _⟩ | q
    · rw [o] at b; cases b
    · exact q
  have lw : (L2.wipe σ vs).length = σ.length := wipe_length σ vs
  refine ⟨by rw [restE_len, R.len, lw], fun j s e => ?_, fun i j si sj a n q1 q2 o1 o2 p1 p2 => ?_, R.src, R.saB, R.caB, R.sub, R.dom, R.fresh, R.old, R.oldB⟩
  · rcases restE_get e with ⟨a, b, _⟩ | ⟨a, b⟩
    · obtain ⟨x, hx, r⟩ := R1.sl j s a
      refine ⟨x, hx, ?_⟩
      cases s with
      | v d => exact Rp.mono S1 r
      | s => exact r
      | l _ => cases b
      | k _ => cases b
      | t _ => cases b
    · obtain ⟨x, hx, r⟩ := R.sl j s b
      exact ⟨x, wipe_get a hx, r⟩
  · obtain ⟨ni, ei⟩ := ownr i si q1 o1
    obtain ⟨nj, ej⟩ := ownr j sj q2 o2
    obtain ⟨x, hx, r⟩ := R.sl i si ei
    obtain ⟨y, hy, r'⟩ := R.sl j sj ej
    have ex := wipe_get ni hx
    have ey := wipe_get nj hy
    rw [p1] at ex
    rw [p2] at ey
    cases ex
    cases ey
    exact R.dist i j si sj a n ei ej o1 o2 hx hy
def compL (g : D → DEnv → Option DEnv) (t : M Bool) (el : M D) (vs : List Nat) : List D → List D → M (List D)
  | [], acc => ret acc
  | x :: xs, acc => fun s => match g x s.1 with
    | none => none
    | some env' => bnd t (fun b => if b then bnd el (fun y s3 => compL g t el vs xs (acc ++ [y]) (wipeE s3.1 vs, s3.2)) else fun s3 => compL g t el vs xs acc (wipeE s3.1 vs, s3.2)) (env', s.2)
def cLc (it : M (List D)) (g : D → DEnv → Option DEnv) (t : M Bool) (el : M D) (vs : List Nat) : M (List D) := bnd it fun xs => bnd (shortM xs) fun xs s1 => match compL g t el vs xs [] (wipeE s1.1 vs, s1.2) with
  | none => none
  | some p => some (p.1, (restE s1.1 vs p.2.1, p.2.2))
end
end DL
set_option Elab.async false
set_option linter.all false
set_option maxRecDepth 100000
set_option maxHeartbeats 1000000
/-! DL4: list comprehensions. -/
namespace DL
open PySem PySem.Spec L2
open PyProof.Rows hiding St
variable [Zm]

section
variable {K : PySem.W.Frag} {F : Fc} {O : List Addr} {H H' : Hp} {σ : St} {env : DEnv} {st : Src} {p : Addr} {o u : HO}
abbrev Fc.with (F : Fc) (p : Addr) (o : HO) : Fc := { F with B := p :: F.B, He := upd F.He p o }
theorem RepS.He_none (R : RepS K F O H σ env st) (hp : p ∈ O) (nB : p ∉ F.B) : F.He p = none := (R.fresh p hp).resolve_left nB
/-- an object is held still -/
theorem RepS.lock (R : RepS K F O H σ env st) (hp : p ∈ O) (nB : p ∉ F.B) (ho : H p = some o) (ne : ∀ (i : Nat) sl, env[i]? = some (some sl) → sl.own = true → σ[i]? ≠ some (some (.ref p))) :
    RepS K (F.with p o) O H σ env st := by
  refine ⟨R.len, fun i s e => ?_, R.dist, R.src, List.mem_cons_of_mem _ R.saB, List.mem_cons_of_mem _ R.caB, fun b hb => ?_, R.dom, fun b hb => ?_, fun b u e n => ?_, fun b hb n1 n2 => ?_⟩
  · obtain ⟨x, hx, r⟩ := R.sl i s e
    refine ⟨x, hx, ?_⟩
    have nn : ∀ a, x = .ref a → s.own = true → a ∉ F.B → a ∉ (F.with p o).B := fun a ex os n z => by
      rcases List.mem_cons.mp z with z | z
      · exact ne i s e os (by rw [hx, ex, z])
      · exact n z
    cases s with
    | v d => exact r
    | l ds => obtain ⟨a, xs, e1, m, n, g, q⟩ := r; exact ⟨a, xs, e1, m, nn a e1 rfl n, g, q⟩
    | k ds => obtain ⟨a, xs, e1, m, n, g, q⟩ := r; exact ⟨a, xs, e1, m, nn a e1 rfl n, g, q⟩
    | t ds => obtain ⟨a, xs, e1, m, n, g, q⟩ := r; exact ⟨a, xs, e1, m, nn a e1 rfl n, g, q⟩
    | s => exact r
  · rcases List.mem_cons.mp hb with z | z
    · rw [z]; exact hp
    · exact R.sub b z
  · by_cases z : b = p
    · exact .inl (by rw [z]; exact List.mem_cons_self)
    · rcases R.fresh b hb with w | w
      · exact .inl (List.mem_cons_of_mem _ w)
      · exact .inr (by show upd F.He p o b = none; rw [upd_ne z]; exact w)
  · have z : b ≠ p := fun z => n (by rw [z]; exact List.mem_cons_self)
    have e' : upd F.He p o b = some u := e
    rw [upd_ne z] at e'
    exact R.old b u e' fun w => n (List.mem_cons_of_mem _ w)
  · by_cases z : b = p
    · show H b = upd F.He p o b
      rw [z, upd_same, ho]
    · show H b = upd F.He p o b
      rw [upd_ne z]
      exact R.oldB b ((List.mem_cons.mp hb).resolve_left z) n1 n2
theorem RepS.unlock (R : RepS K (F.with p o) O H σ env st) (h0 : F.He p = none) (nB : p ∉ F.B) (saB : F.sa ∈ F.B) (caB : F.ca ∈ F.B) : RepS K F O H σ env st ∧ H p = some o := by
  have e : H p = some o := by
    have := R.oldB p List.mem_cons_self (fun z => nB (by rw [z]; exact saB)) (fun z => nB (by rw [z]; exact caB))
    rw [this]
    exact upd_same
  refine ⟨⟨R.len, fun i s e => ?_, R.dist, R.src, saB, caB, fun b hb => R.sub b (List.mem_cons_of_mem _ hb), R.dom, fun b hb => ?_, fun b u e n => ?_, fun b hb n1 n2 => ?_⟩, e⟩
  · obtain ⟨x, hx, r⟩ := R.sl i s e
    refine ⟨x, hx, ?_⟩
    cases s with
    | v d => exact r
    | l ds => obtain ⟨a, xs, e1, m, n, g, q⟩ := r; exact ⟨a, xs, e1, m, fun z => n (List.mem_cons_of_mem _ z), g, q⟩
    | k ds => obtain ⟨a, xs, e1, m, n, g, q⟩ := r; exact ⟨a, xs, e1, m, fun z => n (List.mem_cons_of_mem _ z), g, q⟩
    | t ds => obtain ⟨a, xs, e1, m, n, g, q⟩ := r; exact ⟨a, xs, e1, m, fun z => n (List.mem_cons_of_mem _ z), g, q⟩
    | s => exact r
  · rcases R.fresh b hb with w | w
    · rcases List.mem_cons.mp w with z | z
      · exact .inr (by rw [z]; exact h0)
      · exact .inl z
    · have w' : upd F.He p o b = none := w
      by_cases z : b = p
      · rw [z, upd_same] at w'; cases w'
      · rw [upd_ne z] at w'; exact .inr w'
  · have z : b ≠ p := fun z => by rw [z, h0] at e; cases e
    refine R.old b u (by show upd F.He p o b = some u; rw [upd_ne z]; exact e) fun w => (List.mem_cons.mp w).elim z n
  · have z : b ≠ p := fun z => nB (z ▸ hb)
    have := R.oldB b (List.mem_cons_of_mem _ hb) n1 n2
    rw [this]
    show upd F.He p o b = _
    exact upd_ne z
/-- an owned object that is no name's is written -/
theorem RepS.poke (R : RepS K F O H σ env st) (hp : p ∈ O) (nB : p ∉ F.B) (ne : ∀ (i : Nat) sl, env[i]? = some (some sl) → sl.own = true → σ[i]? ≠ some (some (.ref p))) : RepS K F O (upd H p u) σ env st := by
  have hf : Same (fz O H) (fz O (upd H p u)) := R.writeFz hp
  have nsa : F.sa ≠ p := fun z => nB (z ▸ R.saB)
  have nca : F.ca ≠ p := fun z => nB (z ▸ R.caB)
  refine ⟨R.len, fun i s e => ?_, R.dist, ⟨by rw [upd_ne nsa]; exact R.src.1, by rw [upd_ne nca]; exact R.src.2⟩, R.saB, R.caB, R.sub, fun b hb => ?_, R.fresh, fun b w e n => ?_, fun b hb n1 n2 => ?_⟩
  · obtain ⟨x, hx, r⟩ := R.sl i s e
    refine ⟨x, hx, ?_⟩
    have nn : ∀ a, x = .ref a → s.own = true → a ≠ p := fun a ex os z => ne i s e os (by rw [hx, ex, z])
    cases s with
    | v d => exact Rp.mono hf r
    | l ds => obtain ⟨a, xs, e1, m, n, g, q⟩ := r; exact ⟨a, xs, e1, m, n, by rw [upd_ne (nn a e1 rfl)]; exact g, q.mono hf⟩
    | k ds => obtain ⟨a, xs, e1, m, n, g, k, q⟩ := r; exact ⟨a, xs, e1, m, n, by rw [upd_ne (nn a e1 rfl)]; exact g, k, q.mono hf⟩
    | t ds => obtain ⟨a, xs, e1, m, n, g, k, q⟩ := r; exact ⟨a, xs, e1, m, n, by rw [upd_ne (nn a e1 rfl)]; exact g, k, q.mono hf⟩
    | s => exact r
  · by_cases z : b = p
    · rw [z, upd_same]; exact fun q => nomatch q
    · rw [upd_ne z]; exact R.dom b hb
  · have z : b ≠ p := fun z => by rw [z, R.He_none hp nB] at e; cases e
    rw [upd_ne z]; exact R.old b w e n
  · rw [upd_ne (fun z : b = p => nB (z ▸ hb))]; exact R.oldB b hb n1 n2
end
def GKn (g : D → DEnv → Option DEnv) : Prop := ∀ d e e', g d e = some e' → Kn e e'
def GKns (g : List D → DEnv → Option DEnv) : Prop := ∀ d e e', g d e = some e' → Kn e e'
theorem gkn_set (i : Nat) : GKn (gSet i) := fun d e e' h => by
  unfold gSet at h
  split at h
  · rename_i hi
    cases h
    intro j s q o
    by_cases hj : i = j
    · subst hj
      rw [List.getElem?_set_self hi] at q
      cases q
      cases o
    · rw [List.getElem?_set_ne hj] at q
      exact ⟨s, q, o⟩
  · cases h
theorem gkn_nils : GKns gNils := fun d e e' h => by
  unfold gNils at h
  split at h
  · cases h; exact Kn.refl _
  · cases h
theorem gkn_conss {g : D → DEnv → Option DEnv} {gs : List D → DEnv → Option DEnv} (h1 : GKn g) (h2 : GKns gs) : GKns (gConss g gs) := fun d e e' h => by
  cases d with
  | nil => cases h
  | cons x xs =>
    have h' : (match g x e with | none => none | some e1 => gs xs e1) = some e' := h
    cases q : g x e with
    | none => rw [q] at h'; cases h'
    | some e1 =>
      rw [q] at h'
      exact (h1 x e e1 q).trans (h2 xs e1 e' h')
theorem gkn_tup {n : Nat} {gs : List D → DEnv → Option DEnv} (h : GKns gs) : GKn (gTupD n gs) := fun d e e' q => by
  unfold gTupD at q
  split at q
  · split at q
    · exact h _ e e' q
    · cases q
  · cases q
theorem wipeE_get {j : Nat} {s : Sl} : ∀ {vs : List Nat} {e : DEnv}, (wipeE e vs)[j]? = some (some s) → e[j]? = some (some s)
  | [], _, h => h
  | v :: vs, e, h => by
    have h' : ((wipeE e vs).set v none)[j]? = some (some s) := h
    by_cases hj : v = j
    · subst hj
      by_cases hl : v < (wipeE e vs).length
      · rw [List.getElem?_set_self hl] at h'; cases h'
      · rw [List.getElem?_eq_none (by simpa using hl)] at h'; cases h'
    · rw [List.getElem?_set_ne hj] at h'
      exact wipeE_get h'
theorem kn_wipeE (e : DEnv) (vs : List Nat) : Kn e (wipeE e vs) := fun i s h o => ⟨s, wipeE_get h, o⟩
theorem wipe_wipe {σ : St} : ∀ {ws vs : List Nat}, (∀ i ∈ ws, i ∈ vs) → wipe (wipe σ ws) vs = wipe σ vs
  | [], _, _ => rfl
  | w :: ws, vs, h => by
    show wipe ((wipe σ ws).set w none) vs = _
    rw [wipe_set (h w List.mem_cons_self), wipe_wipe fun i hi => h i (List.mem_cons_of_mem _ hi)]

section
variable {X : Cx} {pos : Pos}
abbrev DTs (X : Cx) (ifs : List Expr) (t : M Bool) : Prop := PTs X ifs (TGT X.K t)
theorem dts_nil : DTs X [] (ret true) := by
  refine ⟨fun pins sh σ H Q I h => ?_⟩
  obtain ⟨F, O, s, a, s', R, hf, q⟩ := h
  cases hf
  exact pts_nil.run pins sh σ H Q I (q H R (Same.refl _) (Kn.refl _))
theorem dts_one {c : Expr} {t : M Bool} (h : DT X c t) : DTs X [c] t := pts_one h
theorem compL_cons {g : D → DEnv → Option DEnv} {t : M Bool} {el : M D} {vs : List Nat} {x : D} {xs acc : List D} {s : S} : compL g t el vs (x :: xs) acc s = (match g x s.1 with
    | none => none
    | some env' => bnd t (fun b => if b then bnd el (fun y s3 => compL g t el vs xs (acc ++ [y]) (wipeE s3.1 vs, s3.2)) else fun s3 => compL g t el vs xs acc (wipeE s3.1 vs, s3.2)) (env', s.2)) := by
  rw [compL]
  first | done | rfl
theorem lc_read {K : PySem.W.Frag} {it : M (List D)} {sls : List Nat} {g : D → DEnv → Option DEnv} {t : M Bool} {el : M D} {vs : List Nat} (hsub : ∀ i ∈ sls, i ∈ vs) (hk : GKn g) {σ : St} {H : Hp} {Q : VK} (h : TGF K (cLc it g t el vs) σ H Q) :
    tLc (TGI K it) (TGG K sls g) (TGT K t) (TG K (relV K) el) vs σ H Q := by
  obtain ⟨F, O, s, res, s', R, hf, q⟩ := h
  obtain ⟨items0, s1, e1, hf⟩ := bnd_inv hf
  obtain ⟨items, s1', e2, hf⟩ := bnd_inv hf
  obtain ⟨hz, e3⟩ := shortM_inv e2
  cases e3
  cases e4 : compL g t el vs items0 [] (wipeE s1.1 vs, s1.2) with
  | none => rw [e4] at hf; cases hf
  | some p =>
    rw [e4] at hf
    cases hf
    refine ⟨F, O, s, items0, s1, R, e1, fun J H1 R1 S1 k1 hJ Dl hD => ?_⟩
    have nO : Dl ∉ O := R1.dom.ne hD
    have nB : Dl ∉ F.B := R1.nB hD
    have ne1 : ∀ (i : Nat) sl, s1.1[i]? = some (some sl) → sl.own = true → σ[i]? ≠ some (some (.ref Dl)) := R1.own_ne nO
    have Rg : ∀ o, RepS K F (Dl :: O) (upd H1 Dl o) σ s1.1 s1.2 := fun o => R1.grow hD
    have hm : Dl ∈ Dl :: O := List.mem_cons_self
    have h0 : F.He Dl = none := (Rg (.lst [])).He_none hm nB
    -- no name of the block owns the new list
    have neW : ∀ (e : DEnv), Kn s1.1 e → ∀ (i : Nat) sl, e[i]? = some (some sl) → sl.own = true → (wipe σ vs)[i]? ≠ some (some (.ref Dl)) := fun e ke i sl hi ho z => by
      obtain ⟨s0, h1, o1⟩ := ke i sl hi ho
      exact ne1 i s0 h1 o1 (wipe_some z).1
    refine ⟨fun i m H2 => m = items0.length - i ∧ i ≤ items0.length ∧ ∃ (s2 : S) (acc : List V) (accD : List D), Rs K F (Dl :: O) H2 (wipe σ vs) s2 ∧ Same (fz O H1) (fz (Dl :: O) H2) ∧ Kn s1.1 s2.1 ∧
      H2 Dl = some (.lst acc) ∧ RpA K (fz (Dl :: O) H2) acc accD ∧ acc.length ≤ i ∧ compL g t el vs (items0.drop i) accD s2 = some p, ?_, ?_⟩
    · exact ⟨_, rfl, Nat.zero_le _, (wipeE s1.1 vs, s1.2), [], [], RepS.wipe (Rg _) vs, fz_grow hD (same_upd hD), kn_wipeE _ _, upd_same, .nil, Nat.le_refl _, e4⟩
    · rintro i m H2 ⟨rfl, hil, s2, acc, accD, R2, S2, k2, hacc, racc, hal, e⟩
      obtain ⟨hgo, hst⟩ := hJ (Dl :: O) H2 S2 R2.dom
      by_cases hlt : i < items0.length
      · right
        have hd : items0.drop i = items0[i] :: items0.drop (i + 1) := by rw [List.drop_eq_getElem_cons hlt]
        obtain ⟨g1, g2⟩ := hgo i items0[i] (by rw [List.getElem?_eq_getElem hlt])
        refine ⟨g1, fun H3 => ∃ (s2 : S) (acc : List V) (accD : List D), Rs K F (Dl :: O) H3 (wipe σ vs) s2 ∧ Same (fz O H1) (fz (Dl :: O) H3) ∧ Kn s1.1 s2.1 ∧
          H3 Dl = some (.lst acc) ∧ RpA K (fz (Dl :: O) H3) acc accD ∧ acc.length ≤ i + 1 ∧ compL g t el vs (items0.drop (i + 1)) accD s2 = some p, fun H3 w => ⟨items0.length - (i + 1), by omega, rfl, hlt, w⟩, fun x H3 y => ?_⟩
        obtain ⟨S3, r3⟩ := g2 x H3 y
        rw [hd, compL_cons] at e
        cases e5 : g items0[i] s2.1 with
        | none => rw [e5] at e; cases e
        | some env' =>
          rw [e5] at e
          obtain ⟨b, s5, e6, e7⟩ := bnd_inv e
          have kt := hk _ _ _ e5
          have R3 := R2.ext S3
          have L3 := R3.lock hm nB (S3 _ _ hacc) (neW _ k2)
          refine ⟨F.with Dl (.lst acc), Dl :: O, s2, items0[i], env', L3, r3, e5, fun σ4 R4 w4 => ⟨(w4 vs hsub).trans (wipe_wipe fun _ h => h), F.with Dl (.lst acc), Dl :: O, _, b, s5, R4, e6, fun H4 R5 S5 k5 => ?_⟩⟩
          have w4' : wipe σ4 vs = wipe σ vs := (w4 vs hsub).trans (wipe_wipe fun _ h => h)
          -- a turn's end
          have fin : ∀ {H6 : Hp} {s6 : S}, RepS K (F.with Dl (.lst acc)) (Dl :: O) H6 σ4 s6.1 s6.2 → Kn s5.1 s6.1 → Rs K F (Dl :: O) H6 (wipe σ vs) (wipeE s6.1 vs, s6.2) ∧ H6 Dl = some (.lst acc) ∧ Kn s1.1 (wipeE s6.1 vs) := fun {H6 s6} R6 k6 => by
            obtain ⟨U, hU⟩ := R6.unlock h0 nB R1.saB R1.caB
            have U' := RepS.wipe U vs
            rw [w4'] at U'
            exact ⟨U', hU, (((k2.trans kt).trans k5).trans k6).trans (kn_wipeE _ _)⟩
          cases b with
          | false =>
            refine iteF ?_
            obtain ⟨U, hU, kU⟩ := fin R5 (Kn.refl _)
            exact ⟨_, acc, accD, U, S2.trans ((fz_same S3).trans S5), kU, hU, racc.mono ((fz_same S3).trans S5), Nat.le_succ_of_le hal, e7⟩
          | true =>
            refine iteT ?_
            have e7 : bnd el (fun y s3 => compL g t el vs (items0.drop (i + 1)) (accD ++ [y]) (wipeE s3.1 vs, s3.2)) s5 = some p := e7
            obtain ⟨yd, s6, e8, e9⟩ := bnd_inv e7
            refine ⟨F.with Dl (.lst acc), Dl :: O, s5, yd, s6, R5, e8, fun z H6 R6 S6 k6 rz => ?_⟩
            obtain ⟨U, hU, kU⟩ := fin R6 k6
            have Sa : Same (fz (Dl :: O) H2) (fz (Dl :: O) H6) := (fz_same S3).trans (S5.trans S6)
            have Sp : Same (fz (Dl :: O) H6) (fz (Dl :: O) (upd H6 Dl (.lst (acc ++ [z])))) := U.writeFz hm
            refine ⟨acc, hU, by have := hz; omega, (wipeE s6.1 vs, s6.2), acc ++ [z], accD ++ [yd], U.poke hm nB (neW _ kU), S2.trans (Sa.trans Sp), kU, upd_same, ((racc.mono Sa).app (.cons rz .nil)).mono Sp, by rw [List.length_append, List.length_singleton]; omega, e9⟩
      · have hi' : i = items0.length := by omega
        subst hi'
        left
        rw [List.drop_length] at e
        have e' : ret accD s2 = some p := e
        cases e'
        refine ⟨hst, ?_⟩
        have Rr := RepS.rest (Rg (.lst [])) R2 (by
          intro b u hb
          obtain ⟨n1, e1⟩ := fz_iff.mp hb
          have nb : b ≠ Dl := fun z => n1 (by rw [z]; exact hm)
          rw [upd_ne nb] at e1
          exact S2 _ _ (fz_iff.mpr ⟨fun w => n1 (List.mem_cons_of_mem _ w), e1⟩))
        have kr : Kn s1.1 (restE s1.1 vs s2.1) := fun j sl ej oj => by
          rcases restE_get ej with ⟨a, b, _⟩ | ⟨a, b⟩
          · rw [oj] at b; cases b
          · exact k2 j sl b oj
        refine q Dl acc H2 Rr (S1.trans S2) (k1.trans kr) nO nB (fun j sl ej oj => ?_) hacc racc
        obtain ⟨s0, h1, o1⟩ := kr j sl ej oj
        exact ne1 j s0 h1 o1
theorem df_lc {elt tg iter : Expr} {ifs : List Expr} {scope : Scope} {own : List (Str × Nat)} {it : M (List D)} {sls : List Nat} {g : D → DEnv → Option DEnv} {t : M Bool} {el : M D} (hc : X.calm = true) (hN : X.N.Nodup) (hi : DI X tg iter it) (ok : BlkOk X.N X.env.scope scope own)
    (hsub : ∀ i ∈ sls, i ∈ own.map (·.2)) (hk : GKn g)
    (hg : ∀ (s : Shared) (H : Hp) (C : Addr) (cl : List (Str × Addr)) (fp : List Addr), DG (X.blk s H scope (compEnvC scope cl C X.env) fp) tg sls g) (ht : ∀ (s : Shared) (H : Hp) (C : Addr) (cl : List (Str × Addr)) (fp : List Addr), DTs (X.blk s H scope (compEnvC scope cl C X.env) fp) ifs t)
    (he : ∀ (s : Shared) (H : Hp) (C : Addr) (cl : List (Str × Addr)) (fp : List Addr), DE (X.blk s H scope (compEnvC scope cl C X.env) fp) elt el) (hs : ∀ x, foldedSetIterable iter X.env x = pure x := by intro _; rfl) :
    DF X (.ListComp elt [⟨tg, iter, ifs, 0⟩] scope pos) (cLc it g t el (own.map (·.2))) :=
  ⟨fun pins sh σ H Q I h => (pe_lc hc hN hi ok hg ht he hs).run pins sh σ H Q I (lc_read hsub hk h)⟩
/-- name = [..] on one line, the name a local: owned, or as data -/
theorem ds_setLcL (i : Nat) {y : Str} {py : Pos} {elt tg iter : Expr} {ifs : List Expr} {scope : Scope} {own : List (Str × Nat)} {spos : Pos} {it : M (List D)} {sls : List Nat} {g : D → DEnv → Option DEnv} {t : M Bool} {el : M D} (hc : X.calm = true) (hN : X.N.Nodup) (hi : DI X tg iter it) (ok : BlkOk X.N X.env.scope scope own)
    (hsub : ∀ i ∈ sls, i ∈ own.map (·.2)) (hk : GKn g)
    (hg : ∀ (s : Shared) (H : Hp) (C : Addr) (cl : List (Str × Addr)) (fp : List Addr), DG (X.blk s H scope (compEnvC scope cl C X.env) fp) tg sls g) (ht : ∀ (s : Shared) (H : Hp) (C : Addr) (cl : List (Str × Addr)) (fp : List Addr), DTs (X.blk s H scope (compEnvC scope cl C X.env) fp) ifs t)
    (he : ∀ (s : Shared) (H : Hp) (C : Addr) (cl : List (Str × Addr)) (fp : List Addr), DE (X.blk s H scope (compEnvC scope cl C X.env) fp) elt el)
    (hy : X.N[i]? = some y := by rfl) (hyl : X.env.scope.names.lookup y = some .local := by rfl) (hsw : swapsWith (.ListComp elt [⟨tg, iter, ifs, 0⟩] scope pos) (some (.Name y py)) spos.line X.env = pure true := by exact sw_true rfl rfl rfl (by decide +kernel)) (hs : ∀ x, foldedSetIterable iter X.env x = pure x := by intro _; rfl) :
    DS X (.Assign [.Name y py] (.ListComp elt [⟨tg, iter, ifs, 0⟩] scope pos) spos) (cSetL i (cLc it g t el (own.map (·.2)))) := by
  refine ⟨fun pins sh σ H D I hw => ?_⟩
  obtain ⟨F, O, s, fl, s', R, hw, q⟩ := hw
  obtain ⟨d, s1, h1, hl, e1, e2⟩ := cSetL_inv hw
  subst e1 e2
  exact (ps_setLc hc hN hy hyl hsw hi ok hg ht he hs).run pins sh σ H D I (lc_read (Q := fun x H1 => gName i x σ H1 D.nx) hsub hk ⟨F, O, s, d, _, R, h1, fun p xs H' a b k n nb ne hp r => q _ (p :: O) H' (put_l a hl nb ne hp r) b⟩)
theorem ds_setLc (i : Nat) {y : Str} {py : Pos} {elt tg iter : Expr} {ifs : List Expr} {scope : Scope} {own : List (Str × Nat)} {spos : Pos} {it : M (List D)} {sls : List Nat} {g : D → DEnv → Option DEnv} {t : M Bool} {el : M D} (hc : X.calm = true) (hN : X.N.Nodup) (hi : DI X tg iter it) (ok : BlkOk X.N X.env.scope scope own)
    (hsub : ∀ i ∈ sls, i ∈ own.map (·.2)) (hk : GKn g)
    (hg : ∀ (s : Shared) (H : Hp) (C : Addr) (cl : List (Str × Addr)) (fp : List Addr), DG (X.blk s H scope (compEnvC scope cl C X.env) fp) tg sls g) (ht : ∀ (s : Shared) (H : Hp) (C : Addr) (cl : List (Str × Addr)) (fp : List Addr), DTs (X.blk s H scope (compEnvC scope cl C X.env) fp) ifs t)
    (he : ∀ (s : Shared) (H : Hp) (C : Addr) (cl : List (Str × Addr)) (fp : List Addr), DE (X.blk s H scope (compEnvC scope cl C X.env) fp) elt el)
    (hy : X.N[i]? = some y := by rfl) (hyl : X.env.scope.names.lookup y = some .local := by rfl) (hsw : swapsWith (.ListComp elt [⟨tg, iter, ifs, 0⟩] scope pos) (some (.Name y py)) spos.line X.env = pure true := by exact sw_true rfl rfl rfl (by decide +kernel)) (hs : ∀ x, foldedSetIterable iter X.env x = pure x := by intro _; rfl) :
    DS X (.Assign [.Name y py] (.ListComp elt [⟨tg, iter, ifs, 0⟩] scope pos) spos) (cSet i (cList (cLc it g t el (own.map (·.2))))) := by
  refine ⟨fun pins sh σ H D I hw => ?_⟩
  obtain ⟨F, O, s, fl, s', R, hw, q⟩ := hw
  obtain ⟨d, s1, h1, hl, e1, e2⟩ := cSet_inv hw
  obtain ⟨ds, s2, h2, h3⟩ := bnd_inv h1
  cases h3
  subst e1 e2
  refine (ps_setLc hc hN hy hyl hsw hi ok hg ht he hs).run pins sh σ H D I (lc_read (Q := fun x H1 => gName i x σ H1 D.nx) hsub hk ⟨F, O, s, ds, _, R, h2, fun p xs H' a b k n nb ne hp r => ?_⟩)
  have S1 : Same (fz (p :: O) H') (fz O H') := fz_mono fun b hb => List.mem_cons_of_mem _ hb
  exact q _ O H' (put_v (a.shrink ne nb) hl (.lst (fz_iff.mpr ⟨n, hp⟩) (r.mono S1))) (b.trans S1)
end
end DL
set_option Elab.async false
set_option linter.all false
set_option maxRecDepth 100000
set_option maxHeartbeats 1000000
/-! DL5: defs and their calls; items and slices; what owned lists and dicts do. -/
namespace DL
open PySem PySem.Spec L2
open PyProof.Rows hiding St
variable [Zm]

/-! ### a def's promise -/
inductive Ar where
  | d (d : D)
  | s
abbrev Phi := List Ar → Src → Option (D × Src)
inductive ArsOk (K : PySem.W.Frag) (O : List Addr) (H : Hp) (sa : Addr) : List V → List Ar → Prop
  | nil : ArsOk K O H sa [] []
  | d {x : V} {xs : List V} {d : D} {as : List Ar} : Rp K (fz O H) x d → ArsOk K O H sa xs as → ArsOk K O H sa (x :: xs) (.d d :: as)
  | s {xs : List V} {as : List Ar} : ArsOk K O H sa xs as → ArsOk K O H sa (.ref sa :: xs) (.s :: as)
def spD (K : PySem.W.Frag) (n : Nat) (φ : Phi) : Sp := fun vs H Q _ => vs.length = n ∧ ∃ (O : List Addr) (sa ca : Addr) (as : List Ar) (st : Src) (d : D) (st' : Src), Dom O H ∧ sa ∈ O ∧ ca ∈ O ∧ SrcAt H sa ca st ∧ ArsOk K O H sa vs as ∧ φ as st = some (d, st') ∧
  ∀ x H', Same (fz O H) (fz O H') → (∀ b ∈ O, b ≠ sa → b ≠ ca → H' b = H b) → SrcAt H' sa ca st' → Rp K (fz O H') x d → Q x H'
def arSl : Ar → Option Sl
  | .d d => some (.v d)
  | .s => some .s
def φOf (n : Nat) (g : M Fl) : Phi := fun as st => match g (as.map arSl ++ List.replicate (n - as.length) none, st) with
  | some (.rt d, s') => some (d, s'.2)
  | some (.nx, s') => some (.none, s'.2)
  | _ => none
theorem ArsOk.len {K : PySem.W.Frag} {O : List Addr} {H : Hp} {sa : Addr} : ∀ {vs : List V} {as : List Ar}, ArsOk K O H sa vs as → vs.length = as.length
  | _, _, .nil => rfl
  | _, _, .d _ r => congrArg (· + 1) r.len
  | _, _, .s r => congrArg (· + 1) r.len
def ArOk (K : PySem.W.Frag) (O : List Addr) (H : Hp) (sa : Addr) (x : V) : Ar → Prop
  | .d d => Rp K (fz O H) x d
  | .s => x = .ref sa
theorem ArsOk.get {K : PySem.W.Frag} {O : List Addr} {H : Hp} {sa : Addr} : ∀ {vs : List V} {as : List Ar} {i : Nat} {a : Ar}, ArsOk K O H sa vs as → as[i]? = some a → ∃ x, vs[i]? = some x ∧ ArOk K O H sa x a
  | _, _, _, _, .nil, e => by simp at e
  | _, _, 0, _, .d r _, e => by simp at e; subst e; exact ⟨_, rfl, r⟩
  | _, _, 0, _, .s _, e => by simp at e; subst e; exact ⟨_, rfl, rfl⟩
  | _, _, i + 1, a, .d _ r, e => by
    obtain ⟨x, h1, h2⟩ := ArsOk.get (i := i) (a := a) r (by simpa using e)
    exact ⟨x, by simpa using h1, h2⟩
  | _, _, i + 1, a, .s r, e => by
    obtain ⟨x, h1, h2⟩ := ArsOk.get (i := i) (a := a) r (by simpa using e)
    exact ⟨x, by simpa using h1, h2⟩
theorem rep_start {K : PySem.W.Frag} {O : List Addr} {H : Hp} {sa ca : Addr} {vs : List V} {as : List Ar} {st : Src} {N : List Str} (dm : Dom O H) (hs : sa ∈ O) (hc : ca ∈ O) (src : SrcAt H sa ca st) (r : ArsOk K O H sa vs as) :
    RepS K ⟨O, H, sa, ca⟩ O H (start N vs) (as.map arSl ++ List.replicate (N.length - as.length) none) st := by
  have get : ∀ (i : Nat) s, (as.map arSl ++ List.replicate (N.length - as.length) none)[i]? = some (some s) → ∃ a, as[i]? = some a ∧ arSl a = some s := fun i s e => by
    by_cases hi : i < as.length
    · rw [List.getElem?_append_left (by simpa using hi), List.getElem?_map] at e
      cases q : as[i]? with
      | none => rw [q] at e; cases e
      | some a => rw [q] at e; exact ⟨a, rfl, by simpa using e⟩
    · rw [List.getElem?_append_right (by simpa using hi)] at e
      rw [List.getElem?_replicate] at e
      split at e <;> cases e
  have noown : ∀ (i : Nat) s, (as.map arSl ++ List.replicate (N.length - as.length) none)[i]? = some (some s) → s.own = false := fun i s e => by
    obtain ⟨a, _, h⟩ := get i s e
    cases a with
    | d d => cases h; rfl
    | s => cases h; rfl
  refine ⟨?_, fun i s e => ?_, fun i j si sj a n e1 e2 o1 => (by rw [noown i si e1] at o1; cases o1), src, hs, hc, fun _ h => h, dm, fun b hb => .inl hb, fun b o e _ => e, fun b _ _ _ => rfl⟩
  · show _ = (vs.map some ++ List.replicate (N.length - vs.length) none).length
    simp [r.len]
  · obtain ⟨a, ha, h⟩ := get i s e
    obtain ⟨x, hx, q⟩ := r.get ha
    refine ⟨x, ?_, ?_⟩
    · show (vs.map some ++ List.replicate (N.length - vs.length) none)[i]? = _
      rw [List.getElem?_append_left (by simpa using (List.getElem?_eq_some_iff.mp hx).1), List.getElem?_map, hx]
      rfl
    · cases a with
      | d d => cases h; exact q
      | s => cases h; exact q
theorem fn_d {P : Program} {w : World} {K : PySem.W.Frag} {mg : Str → Option Value} {base : Heap} {x qual : Str} {st : Stmt} {f : Addr} {fd : FuncData} {N ps : List Str} {k : Nat} {g : M Fl} (F : Fun K x qual st f fd) (Sc : FnScope N ps (defScope st))
    (hbody : ∀ (cdv : Value) (A : Around) (outer : List Env) (s : Shared) (H : Hp), A.guards = some [] → Room k (A.deeper (envOfC qual (defScope st) s.heap.objs.size f cdv)) →
      DSs (cxOf CX0 P w K mg base N qual (defScope st) f cdv A outer s H E0).nox (defBody st) g) : FnG P w K mg base (k + 1) f fd ps (spD K ps.length (φOf N.length g)) := by
  refine fnG_of F Sc (fun vs H Q E h => h.1) fun cdv A outer s H vs Q hgu hr h => ?_
  obtain ⟨_, O, sa, ca, as, st0, d, st', dm, hs, hc, src, r, hφ, q⟩ := h
  refine ⟨_, hbody cdv A outer s H hgu hr, ?_⟩
  have R := rep_start (N := N) dm hs hc src r
  unfold φOf at hφ
  have post : ∀ {s' : S} {O' : List Addr} {H' : Hp} {σ' : St} {y : V} {z : D}, Rs K ⟨O, H, sa, ca⟩ O' H' σ' s' → st' = s'.2 → Rp K (fz O' H') y z → d = z → Q y H' := fun {s' O' H' σ' y z} R' e1 rz e2 => by
    subst e1 e2
    refine q y H' (fun b o e => ?_) (fun b hb n1 n2 => R'.oldB b hb n1 n2) R'.src (rz.mono (fz_mono R'.sub))
    obtain ⟨n, e⟩ := fz_iff.mp e
    exact fz_iff.mpr ⟨n, R'.old b o e n⟩
  cases e : g (as.map arSl ++ List.replicate (N.length - as.length) none, st0) with
  | none => rw [e] at hφ; cases hφ
  | some p =>
    rw [e] at hφ
    obtain ⟨fl, s'⟩ := p
    refine ⟨⟨O, H, sa, ca⟩, O, (as.map arSl ++ List.replicate (N.length - as.length) none, st0), fl, s', R, e, ?_⟩
    cases fl with
    | nx =>
      cases hφ
      exact fun σ' O' H' R' _ => post R' rfl .non rfl
    | rt d' =>
      cases hφ
      exact fun y σ' O' H' R' _ rz => post R' rfl rz rfl
    | bk => cases hφ
    | ct => cases hφ

/-! ### a call -/
def atom : D → Bool
  | .none => true
  | .bool _ => true
  | .int _ => true
  | .str _ => true
  | _ => false
def resA (env : DEnv) : List Od → Option (List Ar × Bool)
  | [] => some ([], false)
  | .d d :: ps => match resA env ps with
    | none => none
    | some q => some (.d d :: q.1, q.2)
  | .i i :: ps => match env[i]?, resA env ps with
    | some (some (.v d)), some q => some (.d d :: q.1, q.2)
    | some (some .s), some q => some (.s :: q.1, q.2)
    | some (some (.l ds)), some q => some (.d (.list ds) :: q.1, true)
    | some (some (.k kds)), some q => some (.d (.dict (kds.map fun p => (encK p.1, p.2))) :: q.1, true)
    | some (some (.t kds)), some q => if kds.isEmpty then none else some (.d (.dict (kds.map fun p => (encT p.1, p.2))) :: q.1, true)
    | _, _ => none
def cCall (φ : Phi) (f : M (List Od)) : M D := bnd f fun ps s => match resA s.1 ps with
  | none => none
  | some q => match φ q.1 s.2 with
    | none => none
    | some r => if q.2 && !atom r.1 then none else some (r.1, (s.1, r.2))
section
variable {K : PySem.W.Frag} {F : Fc} {O : List Addr} {H H' : Hp} {σ : St} {env : DEnv} {st st' : Src}
theorem RepS.call (R : RepS K F O H σ env st) (h1 : Same (fz O H) (fz O H')) (h2 : ∀ b ∈ O, b ≠ F.sa → b ≠ F.ca → H' b = H b) (h3 : SrcAt H' F.sa F.ca st') : RepS K F O H' σ env st' := by
  have dm : Dom O H' := fun b hb => by
    by_cases e1 : b = F.sa
    · rw [e1, h3.1]; exact fun q => nomatch q
    · by_cases e2 : b = F.ca
      · rw [e2, h3.2]; exact fun q => nomatch q
      · rw [h2 b hb e1 e2]; exact R.dom b hb
  refine ⟨R.len, fun i s e => ?_, R.dist, h3, R.saB, R.caB, R.sub, dm, R.fresh, fun b o e n => ?_, fun b hb n1 n2 => (h2 b (R.sub b hb) n1 n2).trans (R.oldB b hb n1 n2)⟩
  · obtain ⟨x, hx, r⟩ := R.sl i s e
    refine ⟨x, hx, ?_⟩
    have k : ∀ a, a ∈ O → a ∉ F.B → H' a = H a := fun a m n => h2 a m (fun z => n (by rw [z]; exact R.saB)) fun z => n (by rw [z]; exact R.caB)
    cases s with
    | v d => exact Rp.mono h1 r
    | l ds => obtain ⟨a, xs, e1, m, n, g, q⟩ := r; exact ⟨a, xs, e1, m, n, by rw [k a m n]; exact g, q.mono h1⟩
    | k ds => obtain ⟨a, xs, e1, m, n, g, kk, q⟩ := r; exact ⟨a, xs, e1, m, n, by rw [k a m n]; exact g, kk, q.mono h1⟩
    | t ds => obtain ⟨a, xs, e1, m, n, g, kk, q⟩ := r; exact ⟨a, xs, e1, m, n, by rw [k a m n]; exact g, kk, q.mono h1⟩
    | s => exact r
  · have e' := R.old b o e n
    by_cases hb : b ∈ O
    · rw [h2 b hb (fun z => n (by rw [z]; exact R.saB)) fun z => n (by rw [z]; exact R.caB)]
      exact e'
    · exact (fz_iff.mp (h1 b o (fz_iff.mpr ⟨hb, e'⟩))).2
/-- the arguments, as the callee sees them: what is owned here is not owned there where it is handed over -/
theorem resA_ok (R : RepS K F O H σ env st) : ∀ {xs : List V} {ps : List Od} {q : List Ar × Bool}, OdsOk K O H σ xs ps → resA env ps = some q → ArsOk K F.B H F.sa xs q.1 ∧ (q.2 = false → ArsOk K O H F.sa xs q.1)
  | _, _, _, .nil, e => by cases e; exact ⟨.nil, fun _ => .nil⟩
  | _, _, _, .cons (p := p) (ps := ps) (x := x) a b, e => by
    have hm : Same (fz O H) (fz F.B H) := fz_mono R.sub
    cases p with
    | d d =>
      unfold resA at e
      cases e1 : resA env ps with
      | none => rw [e1] at e; cases e
      | some q =>
        rw [e1] at e
        cases e
        obtain ⟨i1, i2⟩ := resA_ok R b e1
        exact ⟨.d (Rp.mono hm a) i1, fun h => .d a (i2 h)⟩
    | i i =>
      unfold resA at e
      have hx : σ[i]? = some (some x) := a
      cases e1 : resA env ps with
      | none =>
        rw [e1] at e
        split at e <;> first | (rename_i z1 z2; cases z2; done) | (cases e; done)
      | some q =>
        rw [e1] at e
        obtain ⟨i1, i2⟩ := resA_ok R b e1
        cases e2 : env[i]? with
        | none => rw [e2] at e; cases e
        | some so =>
          cases so with
          | none => rw [e2] at e; cases e
          | some sl =>
            obtain ⟨y, hy, r⟩ := R.sl i sl e2
            rw [hx] at hy
            have exy : x = y := Option.some.inj (Option.some.inj hy)
            subst exy
            rw [e2] at e
            cases sl with
            | v d => cases e; exact ⟨.d (Rp.mono hm r) i1, fun h => .d r (i2 h)⟩
            | s =>
              cases e
              have e3 : x = .ref F.sa := r
              subst e3
              exact ⟨.s i1, fun h => .s (i2 h)⟩
            | l ds =>
              cases e
              obtain ⟨a, xs, e3, m, n, g, z⟩ := r
              subst e3
              exact ⟨.d (.lst (fz_iff.mpr ⟨n, g⟩) (z.mono hm)) i1, fun h => by cases h⟩
            | k kds =>
              cases e
              obtain ⟨a, kvs, e3, m, n, g, hk, z⟩ := r
              subst e3
              refine ⟨.d ?_ i1, fun h => by cases h⟩
              rw [← zip_of encK hk]
              exact .dK (fz_iff.mpr ⟨n, g⟩) (z.mono hm)
            | t kds =>
              have e : (if kds.isEmpty = true then none else some (Ar.d (.dict (kds.map fun p => (encT p.1, p.2))) :: q.1, true)) = some _ := e
              split at e
              · cases e
              · rename_i hne
                cases e
                obtain ⟨a, kvs, e3, m, n, g, hk, z⟩ := r
                subst e3
                refine ⟨.d ?_ i1, fun h => by cases h⟩
                rw [← zip_of encT hk]
                exact .dT (fz_iff.mpr ⟨n, g⟩) (ne_of_keys hk hne) (z.mono hm)
theorem atom_rp {G G' : Hp} {x : V} {d : D} (h : atom d = true) (r : Rp K G x d) : Rp K G' x d := by
  cases r with
  | non => exact .non
  | bl b => exact .bl b
  | int i => exact .int i
  | str x => exact .str x
  | lst _ _ => cases h
  | tup _ _ => cases h
  | dK _ _ => cases h
  | dT _ _ _ => cases h
/-- the promise of a def, as its caller wants it -/
theorem spD_of (R : RepS K F O H σ env st) {xs : List V} {ps : List Od} {q : List Ar × Bool} {φ : Phi} {r : D × Src} {n : Nat} {Q : VK} {E : XK} (ho : OdsOk K O H σ xs ps) (hq : resA env ps = some q) (hφ : φ q.1 st = some r) (hb : (q.2 && !atom r.1) = false) (hn : xs.length = n)
    (h : ∀ x H', RepS K F O H' σ env r.2 → Same (fz O H) (fz O H') → Rp K (fz O H') x r.1 → Q x H') : spD K n φ xs H Q E := by
  obtain ⟨a1, a2⟩ := resA_ok R ho hq
  cases e : q.2 with
  | false =>
    refine ⟨hn, O, F.sa, F.ca, q.1, st, r.1, r.2, R.dom, R.sub _ R.saB, R.sub _ R.caB, R.src, a2 e, hφ, fun x H' h1 h2 h3 h4 => ?_⟩
    exact h x H' (R.call h1 h2 h3) h1 h4
  | true =>
    rw [e] at hb
    have ha : atom r.1 = true := by
      cases hh : atom r.1 with
      | true => rfl
      | false => rw [hh] at hb; cases hb
    refine ⟨hn, F.B, F.sa, F.ca, q.1, st, r.1, r.2, fun b hb => R.dom b (R.sub b hb), R.saB, R.caB, R.src, a1, hφ, fun x H' h1 h2 h3 h4 => ?_⟩
    have h1' : Same (fz O H) (fz O H') := fun b o e => by
      obtain ⟨n, e⟩ := fz_iff.mp e
      exact fz_iff.mpr ⟨n, (fz_iff.mp (h1 b o (fz_iff.mpr ⟨fun z => n (R.sub b z), e⟩))).2⟩
    refine h x H' (R.call h1' (fun b hb n1 n2 => ?_) h3) h1' (atom_rp ha h4)
    by_cases z : b ∈ F.B
    · exact h2 b z n1 n2
    · cases eb : H b with
      | none => exact absurd eb (R.dom b hb)
      | some o => exact (fz_iff.mp (h1 b o (fz_iff.mpr ⟨z, eb⟩))).2
end
section
variable {X : Cx} {pos : Pos}
theorem OdsOk.len {K : PySem.W.Frag} {O : List Addr} {H : Hp} {σ : St} : ∀ {xs : List V} {ps : List Od}, OdsOk K O H σ xs ps → xs.length = ps.length
  | _, _, .nil => rfl
  | _, _, .cons _ r => congrArg (· + 1) r.len
theorem resA_len {env : DEnv} : ∀ {ps : List Od} {q : List Ar × Bool}, resA env ps = some q → q.1.length = ps.length
  | [], _, e => by cases e; rfl
  | .d d :: ps, q, e => by
    unfold resA at e
    split at e
    · cases e
    · rename_i q' e1
      cases e
      exact congrArg (· + 1) (resA_len e1)
  | .i i :: ps, q, e => by
    unfold resA at e
    split at e
    all_goals first
      | (rename_i e1; cases e; exact congrArg (· + 1) (resA_len e1))
      | (rename_i e1; split at e <;> first | (cases e; done) | (cases e; exact congrArg (· + 1) (resA_len e1)))
      | cases e
theorem cCall_inv {φ : Phi} {f : M (List Od)} {s s' : S} {d : D} (h : cCall φ f s = some (d, s')) : ∃ ps s1 q r, f s = some (ps, s1) ∧ resA s1.1 ps = some q ∧ φ q.1 s1.2 = some r ∧ (q.2 && !atom r.1) = false ∧ d = r.1 ∧ s' = (s1.1, r.2) := by
  obtain ⟨ps, s1, h1, h2⟩ := bnd_inv h
  cases e1 : resA s1.1 ps with
  | none => rw [e1] at h2; cases h2
  | some q =>
    rw [e1] at h2
    have h2 : (match φ q.1 s1.2 with | none => none | some r => if q.2 && !atom r.1 then none else some (r.1, (s1.1, r.2))) = some (d, s') := h2
    cases e2 : φ q.1 s1.2 with
    | none => rw [e2] at h2; cases h2
    | some r =>
      rw [e2] at h2
      have h2 : (if (q.2 && !atom r.1) = true then none else some (r.1, (s1.1, r.2))) = some (d, s') := h2
      cases e3 : (q.2 && !atom r.1) with
      | true => rw [e3] at h2; cases h2
      | false =>
        rw [e3] at h2
        cases h2
        exact ⟨ps, s1, q, r, h1, e1, e2, e3, rfl, rfl⟩
/-- f(e, ..), f a def of the text; n its parameters -/
theorem de_call {k : Nat} {f : Addr} {fd : FuncData} {ps : List Str} {φ : Phi} {x : Str} {p : Pos} {e : Expr} {es : List Expr} {t : M (List Od)} {n : Nat} (Fn : FnG X.prog X.w X.K X.mg X.base k f fd ps (spD X.K n φ)) (hgu : X.A.guards = some []) (hr : Room k X.A) (hm : X.mg x = some (.ref f)) (hk : PySem.W.keepIn X.K (.ref f) = true) (hb : Binds X.K fd ps [])
    (ha : DOs X (e :: es) t) (hlen : (e :: es).length = n := by rfl) (hg : Gl X x := by rfl) (hdb : (x == ("__debug__" : Str)) = false := by decide) (he : starEach (e :: es) X.env = (false, eval e X.env) :: starEach es X.env := by rfl) (hpl : (backTo pos (starEach es X.env)).any (·.1) = false := by rfl)
    (hnl : ∀ s r, t s = some r → r.1.length = n) : DE X (.Call (.Name x p) (e :: es) [] pos) (cCall φ t) := by
  refine ⟨fun pins sh σ H Q I h => ?_⟩
  obtain ⟨F, O, s, d, s', R, hf, q⟩ := h
  obtain ⟨pl, s1, qa, r, h1, h2, h3, h4, e1, e2⟩ := cCall_inv hf
  subst e1 e2
  refine (peG_call Fn hgu hr hg hm hk hb ha hdb he hpl).run pins sh σ H Q I ⟨F, O, s, pl, s1, R, h1, fun xs H1 R1 S1 k1 ho => ?_⟩
  show spD X.K n φ xs H1 Q _
  have ho : OdsOk X.K O H1 σ xs pl := ho
  refine spD_of R1 ho h2 h3 h4 (by rw [ho.len]; exact hnl s _ h1) fun y H2 R2 S2 ry => ?_
  exact q y H2 R2 (S1.trans S2) k1 ry
end
end DL
set_option Elab.async false
set_option linter.all false
set_option maxRecDepth 100000
set_option maxHeartbeats 1000000
/-! DL6: items and slices; what owned lists and dicts do. -/
namespace DL
open PySem PySem.Spec L2
open PyProof.Rows hiding St
variable [Zm]

/-! ### keys -/
def keyEq : D → D → Bool
  | .int i, .int j => i == j
  | .str x, .str y => decide (x = y)
  | .tuple xs, .tuple ys => go xs ys
  | _, _ => false
where go : List D → List D → Bool
  | [], [] => true
  | .int i :: xs, .int j :: ys => i == j && go xs ys
  | .str x :: xs, .str y :: ys => decide (x = y) && go xs ys
  | _, _ => false
def lookD (kds : List (D × D)) (k : D) : Option D := (kds.find? fun p => keyEq p.1 k).map (·.2)
def decK : D → Option Key
  | .int i => some (.inl i)
  | .str x => some (.inr x)
  | _ => none
def decKs : List D → Option (List Key)
  | [] => some []
  | d :: ds => match decK d, decKs ds with
    | some k, some ks => some (k :: ks)
    | _, _ => none
def decT : D → Option (List Key)
  | .tuple ds => decKs ds
  | _ => none
theorem decK_enc {d : D} {k : Key} (h : decK d = some k) : d = encK k := by
  unfold decK at h
  split at h
  · cases h; rfl
  · cases h; rfl
  · cases h
theorem decK_encK (k : Key) : decK (encK k) = some k := by cases k <;> rfl
theorem decKs_enc : ∀ {ds : List D} {ks : List Key}, decKs ds = some ks → ds = ks.map encK
  | [], _, h => by cases h; rfl
  | d :: ds, ks, h => by
    unfold decKs at h
    split at h
    · rename_i k ks' e1 e2
      cases h
      rw [decK_enc e1, decKs_enc e2]
      rfl
    · cases h
theorem decT_enc {d : D} {ks : List Key} (h : decT d = some ks) : d = encT ks := by
  unfold decT at h
  split at h
  · rw [decKs_enc h]; rfl
  · cases h
theorem keyEq_K (a b : Key) : keyEq (encK a) (encK b) = decide (a = b) := by
  cases a with
  | inl i => cases b with
    | inl j => rw [key_ll]; rfl
    | inr y => rw [key_lr]; rfl
  | inr x => cases b with
    | inl j => rw [key_rl]; rfl
    | inr y => rw [key_rr]; rfl
theorem keyEq_go : ∀ (a b : List Key), keyEq.go (a.map encK) (b.map encK) = decide (a = b)
  | [], [] => rfl
  | [], b :: bs => rfl
  | a :: as, [] => by cases a <;> rfl
  | a :: as, b :: bs => by
    have ih := keyEq_go as bs
    have hc : decide (a :: as = b :: bs) = (decide (a = b) && decide (as = bs)) := by
      by_cases e1 : a = b
      · by_cases e2 : as = bs
        · simp [e1, e2]
        · simp [e1, e2]
      · simp [e1]
    rw [hc]
    cases a with
    | inl i => cases b with
      | inl j => rw [key_ll, ← ih]; rfl
      | inr y => rw [key_lr]; rfl
    | inr x => cases b with
      | inl j => rw [key_rl]; rfl
      | inr y => rw [key_rr, ← ih]; rfl
theorem keyEq_T (a b : List Key) : keyEq (encT a) (encT b) = decide (a = b) := keyEq_go a b
def OptRp (K : PySem.W.Frag) (G : Hp) : Option V → Option D → Prop
  | some v, some d => Rp K G v d
  | none, none => True
  | _, _ => False
/-- what a dict of values and the dict of data hold at a key -/
theorem look_enc {K : PySem.W.Frag} {G : Hp} {κ : Type} [DecidableEq κ] (enc : κ → D) (he : ∀ a b, keyEq (enc a) (enc b) = decide (a = b)) (k : κ) : ∀ {kvs : List (κ × V)} {ds : List D}, RpA K G (kvs.map (·.2)) ds →
    OptRp K G (valV kvs k) (lookD ((kvs.map fun p => enc p.1).zip ds) (enc k))
  | [], _, h => by cases h; trivial
  | p :: r, ds, h => by
    cases h with
    | cons a b =>
      rename_i d ds
      have ih := look_enc enc he k b
      by_cases e : p.1 = k
      · rw [valV_pos e]
        have : lookD (((p :: r).map fun p => enc p.1).zip (d :: ds)) (enc k) = some d := by
          unfold lookD
          show Option.map (·.2) (List.find? _ ((enc p.1, d) :: (r.map fun p => enc p.1).zip ds)) = _
          rw [List.find?_cons, he, decide_eq_true e]
          rfl
        rw [this]
        exact a
      · rw [valV_neg e]
        have : lookD (((p :: r).map fun p => enc p.1).zip (d :: ds)) (enc k) = lookD ((r.map fun p => enc p.1).zip ds) (enc k) := by
          unfold lookD
          show Option.map (·.2) (List.find? _ ((enc p.1, d) :: (r.map fun p => enc p.1).zip ds)) = _
          rw [List.find?_cons, he, decide_eq_false e]
        rw [this]
        exact ih
theorem key_val {K : PySem.W.Frag} {G : Hp} {y : V} {k : Key} (h : Rp K G y (encK k)) : y = kV k := by
  cases k with
  | inl i => exact h.int_inv
  | inr x => exact h.str_inv
theorem keys_val {K : PySem.W.Frag} {G : Hp} : ∀ {ys : List V} {ks : List Key}, RpA K G ys (ks.map encK) → ys = ks.map kV
  | _, [], h => by cases h; rfl
  | _, k :: ks, h => by
    cases h with
    | cons a b => rw [key_val a, keys_val b]; rfl
inductive DkAt (K : PySem.W.Frag) (O : List Addr) (H : Hp) (a : Addr) : List (D × D) → Prop
  | k {kvs : List (Key × V)} {ds : List D} : H a = some (.dK kvs) → RpA K (fz O H) (kvs.map (·.2)) ds → DkAt K O H a ((kvs.map fun p => encK p.1).zip ds)
  | t {kvs : List (List Key × V)} {ds : List D} : H a = some (.dT kvs) → kvs ≠ [] → RpA K (fz O H) (kvs.map (·.2)) ds → DkAt K O H a ((kvs.map fun p => encT p.1).zip ds)
theorem Rp1.dict_inv {K : PySem.W.Frag} {O : List Addr} {H : Hp} {x : V} {kds : List (D × D)} (h : Rp1 K O H x (.dict kds)) : ∃ a, x = .ref a ∧ DkAt K O H a kds := by
  cases h with
  | of h => cases h with
    | dK s r => exact ⟨_, rfl, .k (fz_le _ _ s) r⟩
    | dT s n r => exact ⟨_, rfl, .t (fz_le _ _ s) n r⟩
  | dK s r => exact ⟨_, rfl, .k s r⟩
  | dT s n r => exact ⟨_, rfl, .t s n r⟩
def kindK (kds : List (D × D)) : Bool := kds.all fun p => (decK p.1).isSome
/-- what a dict of data says of a key of its kind -/
def dLook (kds : List (D × D)) (k : D) : Option (Option D) := if kindK kds then (match decK k with
    | some _ => some (lookD kds k)
    | none => none)
  else if Zm.z then none else match decT k with
    | some _ => some (lookD kds k)
    | none => none
section
variable {K : PySem.W.Frag} {O : List Addr} {H : Hp} {a : Addr} {kds : List (D × D)}
theorem kindK_enc {κ : Type} (enc : κ → D) (kvs : List (κ × V)) (ds : List D) (h : ∀ k, (decK (enc k)).isSome = true) : kindK ((kvs.map fun p => enc p.1).zip ds) = true := by
  unfold kindK
  rw [List.all_eq_true]
  intro p hp
  have hm := (List.of_mem_zip hp).1
  obtain ⟨q, _, e⟩ := List.mem_map.mp hm
  rw [← e]
  exact h q.1
theorem dget_of {y : V} {d : D} {r : Option D} (h : DkAt K O H a kds) (ry : Rp1 K O H y d) (e : dLook kds d = some r) : ∃ o, DGet H a y o ∧ OptRp K (fz O H) o r := by
  cases h with
  | k hd ra =>
    rename_i kvs ds
    unfold dLook at e
    rw [if_pos (kindK_enc encK kvs ds fun k => by rw [decK_encK]; rfl)] at e
    cases ek : decK d with
    | none => rw [ek] at e; cases e
    | some k =>
      rw [ek] at e
      cases e
      have e2 := decK_enc ek
      subst e2
      have ry' : y = kV k := by
        cases k with
        | inl i => exact ry.int_inv
        | inr x => exact ry.str_inv
      subst ry'
      exact ⟨_, DGet.k hd, look_enc encK keyEq_K k ra⟩
  | t hd hn ra =>
    rename_i kvs ds
    unfold dLook at e
    have nk : ¬ kindK ((kvs.map fun p => encT p.1).zip ds) = true := by
      intro z
      cases kvs with
      | nil => exact hn rfl
      | cons p q =>
        cases ra with
        | cons _ _ => cases z
    rw [if_neg nk] at e
    cases ez : Zm.z with
    | true => rw [ez, if_pos rfl] at e; cases e
    | false =>
    rw [ez, if_neg (by decide)] at e
    cases ek : decT d with
    | none => rw [ek] at e; cases e
    | some k =>
      rw [ek] at e
      cases e
      have e2 := decT_enc ek
      subst e2
      obtain ⟨b, xs, e3, hb, rx⟩ := Rp1.tup_inv ry
      subst e3
      rw [keys_val rx, ez] at hb
      exact ⟨_, DGet.t hd (fz_le _ _ hb), look_enc encT keyEq_T k ra⟩
end

/-! ### two operands -/
theorem ops2 {K : PySem.W.Frag} {f g : M Od} {F : Fc} {O : List Addr} {H : Hp} {σ : St} {s s1 s2 : S} {p p' : Od} (R : Rs K F O H σ s) (h1 : f s = some (p, s1)) (h2 : g s1 = some (p', s2)) {Φ : V → V → Hp → Prop}
    (k : ∀ x y H2, Rs K F O H2 σ s2 → Same (fz O H) (fz O H2) → Kn s.1 s2.1 → OdOk K O H2 σ x p → OdOk K O H2 σ y p' → Φ x y H2) : TG K (relO K) f σ H fun x H1 => TG K (relO K) g σ H1 fun y H2 => Φ x y H2 :=
  ⟨F, O, s, p, s1, R, h1, fun x H1 R1 S1 k1 o1 => ⟨F, O, s1, p', s2, R1, h2, fun y H2 R2 S2 k2 o2 => k x y H2 R2 (S1.trans S2) (k1.trans k2) (OdOk.mono o1 S2) o2⟩⟩
theorem cOp2_inv {r : D → D → Option D} {f g : M Od} {s s' : S} {d : D} (hf : cOp2 r f g s = some (d, s')) : ∃ p s1 p' d1 d2, f s = some (p, s1) ∧ g s1 = some (p', s') ∧ rd s'.1 p = some d1 ∧ rd s'.1 p' = some d2 ∧ r d1 d2 = some d := by
  obtain ⟨p, s1, h1, hf⟩ := bnd_inv hf
  obtain ⟨p', s2, h2, hf⟩ := bnd_inv hf
  obtain ⟨d, s3, h3, hf⟩ := bnd_inv hf
  obtain ⟨d1, e3, e4⟩ := rdM_inv h3
  cases e4
  obtain ⟨e, s4, h4, hf⟩ := bnd_inv hf
  obtain ⟨d2, e5, e6⟩ := rdM_inv h4
  cases e6
  obtain ⟨z', e7, e8⟩ := lft_inv hf
  cases e8
  exact ⟨p, s1, p', _, _, h1, h2, e3, e5, e7⟩
/-! ### items -/
def ixD : D → D → Option D
  | .list ds, .int i => atI ds i
  | .tuple ds, .int i => atI ds i
  | .dict kds, k => match dLook kds k with
    | some r => r
    | none => none
  | _, _ => none
theorem at_rp {K : PySem.W.Frag} {G : Hp} {xs : List V} {ds : List D} {i : Int} {d : D} (r : RpA K G xs ds) (h : atI ds i = some d) : ∃ v, atI xs i = some v ∧ Rp K G v d := by
  unfold atI at h ⊢
  rw [r.len]
  cases e : ixN ds.length i with
  | none => rw [e] at h; cases h
  | some j =>
    rw [e] at h
    exact r.get h
section
variable {X : Cx} {pos : Pos}
theorem de_ix {a b : Expr} {f g : M Od} (hu : X.A.units + 1 < cLine) (ha : DO X a f) (hb : DO X b g) (hs : PlainIx b := by exact fun _ _ => rfl) : DE X (.Subscript a b pos) (cOp2 ixD f g) := by
  refine ⟨fun pins sh σ H Q I h => ?_⟩
  obtain ⟨F, O, s, z, s', R, hf, q⟩ := h
  obtain ⟨p, s1, p', d1, d2, h1, h2, e1, e2, e3⟩ := cOp2_inv hf
  cases d1 with
  | list ds =>
    cases d2 with
    | int i =>
      refine (pe_ix ix_list ha hb hs).run pins sh σ H Q I (ops2 R h1 h2 fun x y H2 R2 S2 k2 o1 o2 => ?_)
      obtain ⟨l, xs, e4, hl, r⟩ := (OdOk.rd R2 o1 e1).list_inv
      obtain ⟨v, hv, rv⟩ := at_rp r e3
      exact ⟨l, xs, i, v, e4, (OdOk.rd R2 o2 e2).int_inv, SqL.of hl, hv, q v H2 R2 S2 k2 rv⟩
    | _ => cases e3
  | tuple ds =>
    cases d2 with
    | int i =>
      refine (pe_ix ix_tup ha hb hs).run pins sh σ H Q I (ops2 R h1 h2 fun x y H2 R2 S2 k2 o1 o2 => ?_)
      obtain ⟨l, xs, e4, hl, r⟩ := (OdOk.rd R2 o1 e1).tup_inv
      obtain ⟨v, hv, rv⟩ := at_rp r e3
      exact ⟨l, xs, i, v, e4, (OdOk.rd R2 o2 e2).int_inv, hl.le.sq, hv, q v H2 R2 S2 k2 rv⟩
    | _ => cases e3
  | dict kds =>
    refine (pe_dget hu ha hb hs).run pins sh σ H Q I (ops2 R h1 h2 fun x y H2 R2 S2 k2 o1 o2 => ?_)
    obtain ⟨l, e4, hd⟩ := (OdOk.rd R2 o1 e1).dict_inv
    have e3' : (match dLook kds d2 with | some r => r | none => none) = some z := e3
    cases e5 : dLook kds d2 with
    | none => rw [e5] at e3'; cases e3'
    | some r =>
      rw [e5] at e3'
      have e3' : r = some z := e3'
      subst e3'
      obtain ⟨o, hg, ho⟩ := dget_of hd (OdOk.rd R2 o2 e2) e5
      cases o with
      | none => exact ho.elim
      | some v => exact ⟨l, v, e4, hg, q v H2 R2 S2 k2 ho⟩
  | none => cases e3
  | bool _ => cases e3
  | int _ => cases e3
  | str _ => cases e3
/-! ### in -/
def dInD (neg : Bool) : D → D → Option D
  | k, .dict kds => match dLook kds k with
    | some r => some (.bool (if neg then !r.isSome else r.isSome))
    | none => none
  | _, _ => none
theorem opt_some {K : PySem.W.Frag} {G : Hp} {o : Option V} {r : Option D} (h : OptRp K G o r) : o.isSome = r.isSome := by
  cases o <;> cases r <;> first | rfl | exact h.elim
/-! ### slices -/
def cutL {α : Type} (xs : List α) (lo hi : Option Int) : List α := (xs.drop (HT.sIx xs.length 0 lo)).take (HT.sIx xs.length xs.length hi - HT.sIx xs.length 0 lo)
theorem cut_rp {K : PySem.W.Frag} {G : Hp} {xs : List V} {ds : List D} (r : RpA K G xs ds) (lo hi : Option Int) : RpA K G (cutV xs lo hi) (cutL ds lo hi) := by
  unfold cutV cutL
  rw [r.len]
  exact (r.drop _).take _
abbrev TGO (K : PySem.W.Frag) (f : M (Option Int)) : TO := fun σ H Q => ∃ (F : Fc) (O : List Addr) (s : S) (a : Option Int) (s' : S), Rs K F O H σ s ∧ f s = some (a, s') ∧ ∀ H', Rs K F O H' σ s' → Same (fz O H) (fz O H') → Kn s.1 s'.1 → Q a H'
abbrev DPO (X : Cx) (e : Option Expr) (f : M (Option Int)) : Prop := PO X e (TGO X.K f)
def intM (d : D) : M Int := fun s => match d with
  | .int i => some (i, s)
  | _ => none
theorem intM_inv {d : D} {s : S} {p : Int × S} (h : intM d s = some p) : d = .int p.1 ∧ p.2 = s := by
  unfold intM at h
  split at h
  · cases h; exact ⟨rfl, rfl⟩
  · cases h
def cPart (f : M D) : M (Option Int) := bnd f fun d => bnd (intM d) fun i => ret (some i)
theorem dpo_none : DPO X none (ret none) := by
  refine ⟨fun pins sh σ H Q I h => ?_⟩
  obtain ⟨F, O, s, a, s', R, hf, q⟩ := h
  cases hf
  exact po_none.run pins sh σ H Q I (q H R (Same.refl _) (Kn.refl _))
theorem dpo_some {e : Expr} {f : M D} (h : DE X e f) : DPO X (some e) (cPart f) := by
  refine ⟨fun pins sh σ H Q I hw => ?_⟩
  obtain ⟨F, O, s, a, s', R, hf, q⟩ := hw
  obtain ⟨d, s1, h1, hf⟩ := bnd_inv hf
  obtain ⟨i, s2, h2, hf⟩ := bnd_inv hf
  obtain ⟨e1, e2⟩ := intM_inv h2
  have e2 : s2 = s1 := e2
  have e1 : d = .int i := e1
  subst e1 e2
  cases hf
  exact (po_some h).run pins sh σ H Q I ⟨F, O, s, _, _, R, h1, fun x H1 a b k r => ⟨i, r.int_inv, q H1 a b k⟩⟩
def slD (d : D) (lo hi : Option Int) : Option D := match d with
  | .list ds => some (.list (cutL ds lo hi))
  | .tuple ds => some (.tuple (cutL ds lo hi))
  | _ => none
def cSl (f : M Od) (lo hi : M (Option Int)) : M D := bnd f fun p => bnd lo fun a => bnd hi fun b => bnd (rdM p) fun d => lft (slD d a b)
theorem cutL_whole {α : Type} {xs : List α} {lo hi : Option Int} (h : HT.sIx xs.length 0 lo = 0 ∧ HT.sIx xs.length xs.length hi = xs.length) : cutL xs lo hi = xs := by
  unfold cutL
  rw [h.1, h.2]
  simp
/-- t[lo:hi], the new tuple told as the mode wants it -/
def rSlZ (K : PySem.W.Frag) : V → Option Int → Option Int → Hp → VK → Prop := fun x lo hi H Q => ∃ a xs, x = .ref a ∧ SqT K H a xs ∧ (HT.sIx xs.length 0 lo = 0 ∧ HT.sIx xs.length xs.length hi = xs.length → Q (.ref a) H) ∧
  (¬ (HT.sIx xs.length 0 lo = 0 ∧ HT.sIx xs.length xs.length hi = xs.length) → ∀ (p : Addr) (ob : Obj), ob.dict = none → H p = none → Q (.ref p) (upd H p (tupO Zm.z ob (cutV xs lo hi))))
theorem sl_tupZ : SlR X (rSlZ X.K) := by
  intro pins s σ H x v vl vu lo hi sl Q I rx hs pl pu h
  obtain ⟨a, xs, rfl, hx, q1, q2⟩ := h
  cases rx
  obtain ⟨its, r, ht, hz⟩ := I.tuple hx
  have hlen : its.toArray.size = xs.length := by rw [List.size_toArray]; exact r.length.symm
  by_cases hw : HT.sIx xs.length 0 lo = 0 ∧ HT.sIx xs.length xs.length hi = xs.length
  · exact ⟨"tuple", _, PyProof.Rows.slot_tuple_getitem.lookup, ht.typeIs, getItem_tuple_whole ht hs pl pu (by rw [hlen]; exact hw) ⟨.ref a, H, I, rfl, q1 hw⟩⟩
  · refine ⟨"tuple", _, PyProof.Rows.slot_tuple_getitem.lookup, ht.typeIs, HT.getItem_tuple_cut ht hs pl pu (by rw [hlen]; exact hw) ?_ (by rw [hlen]; exact hz)⟩
    rw [hlen]
    exact ⟨.ref s.heap.objs.size, _, I.laid (t' := s.toks) (o := tupO Zm.z _ (cutV xs lo hi)) (fun b ob q => Heap.get?_push_of_some _ q) (Nat.le_refl _) (tupO_ok (Heap.get?_push_size _ rfl) rfl rfl ((r.drop (HT.sIx xs.length 0 lo)).take (HT.sIx xs.length xs.length hi - HT.sIx xs.length 0 lo)) (Nat.le_trans (cutV_length xs lo hi) hz)), rfl, q2 hw _ _ rfl (I.hok.fresh (Nat.le_refl _))⟩
theorem de_sl {e : Expr} {lo hi : Option Expr} {f : M Od} {g g' : M (Option Int)} {p2 : Pos} (he : DO X e f) (hl : DPO X lo g) (hh : DPO X hi g') : DE X (.Subscript e (.Slice lo hi none p2) pos) (cSl f g g') := by
  refine ⟨fun pins sh σ H Q I h => ?_⟩
  obtain ⟨F, O, s, z, s', R, hf, q⟩ := h
  obtain ⟨p, s1, h1, hf⟩ := bnd_inv hf
  obtain ⟨a, s2, h2, hf⟩ := bnd_inv hf
  obtain ⟨b, s3, h3, hf⟩ := bnd_inv hf
  obtain ⟨d, s4, h4, hf⟩ := bnd_inv hf
  obtain ⟨d1, e1, e2⟩ := rdM_inv h4
  cases e2
  obtain ⟨z', e3, e4⟩ := lft_inv hf
  cases e4
  refine (pe_slice (sl_list.or sl_tupZ) he hl hh).run pins sh σ H Q I ⟨F, O, s, p, s1, R, h1, fun x H1 R1 S1 k1 o1 => ⟨F, O, s1, a, s2, R1, h2, fun H2 R2 S2 k2 => ⟨F, O, s2, b, _, R2, h3, fun H3 R3 S3 k3 => ?_⟩⟩⟩
  have o3 := OdOk.rd R3 (OdOk.mono o1 (S2.trans S3)) e1
  have S := S1.trans (S2.trans S3)
  have k := (k1.trans k2).trans k3
  cases d with
  | list ds =>
    cases e3
    obtain ⟨l, xs, e4, hl, r⟩ := o3.list_inv
    left
    refine ⟨l, xs, e4, SqL.of hl, fun p np => ?_⟩
    have Sn := same_upd (o := .lst (cutV xs a b)) np
    exact q _ _ (R3.ext Sn) (S.trans (fz_same Sn)) k (.lst (fz_iff.mpr ⟨R3.dom.ne np, upd_same⟩) ((cut_rp r a b).mono (fz_same Sn)))
  | tuple ds =>
    cases e3
    obtain ⟨l, xs, e4, hl, r⟩ := o3.tup_inv
    right
    subst e4
    refine ⟨l, xs, rfl, hl.le.sq, fun hw => ?_, fun _ p ob hob np => ?_⟩
    · refine q _ _ R3 S k ?_
      rw [cutL_whole (by rw [← r.len]; exact hw)]
      exact .tup hl r
    · have Sn := same_upd (o := tupO Zm.z ob (cutV xs a b)) np
      exact q _ _ (R3.ext Sn) (S.trans (fz_same Sn)) k (.tup (tupAt_fz (R3.dom.ne np) hob) ((cut_rp r a b).mono (fz_same Sn)))
  | none => cases e3
  | bool _ => cases e3
  | int _ => cases e3
  | str _ => cases e3
  | dict _ => cases e3
/-- a slice of a list, owned -/
def listM (d : D) : M (List D) := fun s => match d with
  | .list ds => some (ds, s)
  | _ => none
theorem listM_inv {d : D} {s : S} {p : List D × S} (h : listM d s = some p) : d = .list p.1 ∧ p.2 = s := by
  unfold listM at h
  split at h
  · cases h; exact ⟨rfl, rfl⟩
  · cases h
def cSlL (f : M Od) (lo hi : M (Option Int)) : M (List D) := bnd f fun p => bnd lo fun a => bnd hi fun b => bnd (rdM p) fun d => bnd (listM d) fun ds => ret (cutL ds a b)
theorem df_sl {e : Expr} {lo hi : Option Expr} {f : M Od} {g g' : M (Option Int)} {p2 : Pos} (he : DO X e f) (hl : DPO X lo g) (hh : DPO X hi g') : DF X (.Subscript e (.Slice lo hi none p2) pos) (cSlL f g g') := by
  refine ⟨fun pins sh σ H Q I h => ?_⟩
  obtain ⟨F, O, s, z, s', R, hf, q⟩ := h
  obtain ⟨p, s1, h1, hf⟩ := bnd_inv hf
  obtain ⟨a, s2, h2, hf⟩ := bnd_inv hf
  obtain ⟨b, s3, h3, hf⟩ := bnd_inv hf
  obtain ⟨d, s4, h4, hf⟩ := bnd_inv hf
  obtain ⟨d1, e1, e2⟩ := rdM_inv h4
  cases e2
  obtain ⟨ds, s5, h5, hf⟩ := bnd_inv hf
  obtain ⟨e3, e4⟩ := listM_inv h5
  have e4 : s5 = s3 := e4
  have e3 : d = .list ds := e3
  subst e3 e4
  cases hf
  refine (pe_slice sl_list he hl hh).run pins sh σ H Q I ⟨F, O, s, p, s1, R, h1, fun x H1 R1 S1 k1 o1 => ⟨F, O, s1, a, s2, R1, h2, fun H2 R2 S2 k2 => ⟨F, O, s2, b, _, R2, h3, fun H3 R3 S3 k3 => ?_⟩⟩⟩
  obtain ⟨l, xs, e4, hl, r⟩ := (OdOk.rd R3 (OdOk.mono o1 (S2.trans S3)) e1).list_inv
  exact ⟨l, xs, e4, SqL.of hl, fun p np => fr_own R3 (S1.trans (S2.trans S3)) ((k1.trans k2).trans k3) q p _ np (cut_rp r a b)⟩
end
end DL
set_option Elab.async false
set_option linter.all false
set_option maxRecDepth 100000
set_option maxHeartbeats 1000000
/-! DL7: what owned lists and dicts do; several names at once. -/
namespace DL
open PySem PySem.Spec L2
open PyProof.Rows hiding St
variable [Zm]

section
variable {K : PySem.W.Frag} {F : Fc} {O : List Addr} {H : Hp} {σ : St} {s : S}
/-! ### methods of an owned list -/
def ownL (i : Nat) : M Unit := fun s => match s.1[i]? with
  | some (some (.l _)) => some ((), s)
  | _ => none
theorem ownL_inv {i : Nat} {s : S} {p : Unit × S} (h : ownL i s = some p) : (∃ ds, s.1[i]? = some (some (.l ds))) ∧ p.2 = s := by
  unfold ownL at h
  split at h
  · rename_i ds e; cases h; exact ⟨⟨ds, e⟩, rfl⟩
  · cases h
theorem RepS.atL (R : Rs K F O H σ s) {i : Nat} {ds : List D} (e : s.1[i]? = some (some (.l ds))) : ∃ a xs, σ[i]? = some (some (.ref a)) ∧ a ∈ O ∧ a ∉ F.B ∧ H a = some (.lst xs) ∧ RpA K (fz O H) xs ds := by
  obtain ⟨x, hx, a, xs, e1, m, n, g, q⟩ := R.sl i _ e
  subst e1
  exact ⟨a, xs, hx, m, n, g, q⟩
/-- the new list's slot -/
theorem RepS.setL (R : Rs K F O H σ s) {i : Nat} {sl : Sl} {a : Addr} {xs : List V} {ds : List D} (e : s.1[i]? = some (some sl)) (ho : sl.own = true) (hσ : σ[i]? = some (some (.ref a))) (m : a ∈ O) (n : a ∉ F.B) (r : RpA K (fz O H) xs ds) :
    Rs K F O (upd H a (.lst xs)) σ (s.1.set i (some (.l ds)), s.2) :=
  RepS.write R e ho hσ m n ⟨a, xs, rfl, m, n, upd_same, r.mono (RepS.writeFz R m)⟩
end
/-- a method of a list by its data: the arguments, the result, the list behind it -/
def HOp (K : PySem.W.Frag) (rr : V → List V → Hp → VK → Prop) (op : List D → List D → Option (D × List D)) : Prop :=
  ∀ (O : List Addr) (H : Hp) (a : Addr) (xs : List V) (ds : List D) (vs : List V) (args : List D) (r : D) (ds' : List D) (Q : VK), H a = some (.lst xs) → xs.length ≤ sizeLine → RpA K (fz O H) xs ds → RpA K (fz O H) vs args → op ds args = some (r, ds') →
    (∀ x xs', RpA K (fz O H) xs' ds' → Rp K (fz O H) x r → Q x (upd H a (.lst xs'))) → rr (.ref a) vs H Q
def mOwnL (i : Nat) (f : M (List D)) (op : List D → List D → Option (D × List D)) : M D := bnd (ownL i) fun _ => bnd f fun args s => match s.1[i]? with
  | some (some (.l ds)) => match op ds args with
    | none => none
    | some p => some (p.1, (s.1.set i (some (.l p.2)), s.2))
  | _ => none
theorem kn_set {e : DEnv} {i : Nat} {s s' : Sl} (h : e[i]? = some (some s)) (o : s.own = true) : Kn e (e.set i (some s')) := fun j t q w => by
  by_cases hj : i = j
  · subst hj
    exact ⟨s, h, o⟩
  · rw [List.getElem?_set_ne hj] at q
    exact ⟨t, q, w⟩
theorem mOwnL_inv {i : Nat} {f : M (List D)} {op : List D → List D → Option (D × List D)} {s s' : S} {d : D} (h : mOwnL i f op s = some (d, s')) :
    ∃ ds0 args s1 ds ds', s.1[i]? = some (some (.l ds0)) ∧ f s = some (args, s1) ∧ s1.1[i]? = some (some (.l ds)) ∧ op ds args = some (d, ds') ∧ s' = (s1.1.set i (some (.l ds')), s1.2) := by
  obtain ⟨_, s0, h1, h2⟩ := bnd_inv h
  obtain ⟨⟨ds0, e0⟩, e1⟩ := ownL_inv h1
  have e1 : s0 = s := e1
  subst e1
  obtain ⟨args, s1, h3, h4⟩ := bnd_inv h2
  have h4 : (match s1.1[i]? with
    | some (some (.l ds)) => match op ds args with
      | none => none
      | some p => some (p.1, (s1.1.set i (some (.l p.2)), s1.2))
    | _ => none) = some (d, s') := h4
  split at h4
  · rename_i ds e2
    cases e3 : op ds args with
    | none => rw [e3] at h4; cases h4
    | some p =>
      rw [e3] at h4
      cases h4
      exact ⟨ds0, args, s1, ds, p.2, e0, h3, e2, e3, rfl⟩
  · cases h4
section
variable {X : Cx} {pos : Pos}
theorem lst_len {pins : List (Addr × Obj)} {σ : St} {H : Hp} {sh : Shared} {a : Addr} {xs : List V} (I : Inv X pins σ H sh) (h : H a = some (.lst xs)) : xs.length ≤ sizeLine := (I.lstM h).1
/-- a list's length is known from the state -/
theorem mt_len {id : String} {rr : V → List V → Hp → VK → Prop} (hm : MtM X id rr) : MtM X id (fun x vs H Q => ∃ a xs, x = .ref a ∧ H a = some (.lst xs) ∧ (xs.length ≤ sizeLine → rr x vs H Q)) := by
  intro pins s σ H x vs v us Q I rx rv h
  obtain ⟨a, xs, e, g, q⟩ := h
  exact hm pins s σ H x vs v us Q I rx rv (q (lst_len I g))
theorem de_ownL {i : Nat} {id : String} {name : Str} {rr : V → List V → Hp → VK → Prop} {op : List D → List D → Option (D × List D)} {x : Str} {p ap : Pos} {e : Expr} {es : List Expr} {f : M (List D)} (slot : Slot "list" name id) (hty : typeOf (.builtin id) = pure (.type "method_descriptor")) (hm : MtM X id rr) (hop : HOp X.K rr op) (ha : DA X (e :: es) f)
    (hN : X.N[i]? = some x := by rfl) (hv : Vis X.env.scope x := by first | exact Or.inl rfl | exact Or.inr (Or.inl rfl) | exact Or.inr (Or.inr rfl)) (hd : (x == ("__debug__" : Str)) = false := by decide) (hcd : (x == ("__classdict__" : Str)) = false := by decide)
    (hbase : attributeBase (.Name x p) name X.env (eval (.Name x p) X.env) = eval (.Name x p) X.env := by rfl)
    (hfew : ((backTo pos (starEach (e :: es) X.env)).all (fun x => !x.1) && (backToKw pos (keywordEach [] X.env)).all (fun x => x.1.isSome)
      && decide ((e :: es).length + ([] : List Keyword).length + (if ([] : List Keyword).isEmpty then 0 else 1) < 30)) = true := by rfl)
    (hline : (ap.endLine == pos.line) = true := by rfl) (hs : starEach (e :: es) X.env = (false, eval e X.env) :: starEach es X.env := by rfl) (hplain : (backTo pos (starEach es X.env)).any (·.1) = false := by rfl) :
    DE X (.Call (.Attribute (.Name x p) name ap) (e :: es) [] pos) (mOwnL i f op) := by
  refine ⟨fun pins sh σ H Q I h => ?_⟩
  obtain ⟨F, O, s, d, s', R, hf, q⟩ := h
  obtain ⟨ds0, args, s1, ds, ds', e0, h1, e2, e3, e4⟩ := mOwnL_inv hf
  subst e4
  obtain ⟨a0, xs0, hσ0, m0, n0, g0, r0⟩ := RepS.atL R e0
  refine (pe_bm PySem.F.plainAttrs_list slot hty (mt_len hm) (pe_var hN hv hd hcd) ha hbase hfew hline hs hplain).run pins sh σ H Q I ⟨.ref a0, hσ0, .inl ⟨rfl, xs0, SqL.of g0⟩, F, O, s, args, s1, R, h1, fun vs H1 R1 S1 k1 ra => ?_⟩
  obtain ⟨a, xs, hσ, m, n, g, r⟩ := RepS.atL R1 e2
  rw [hσ0] at hσ
  cases hσ
  refine ⟨a0, xs, rfl, g, fun hz => hop O H1 a0 xs ds vs args d ds' Q g hz r ra e3 fun y xs' r' ry => ?_⟩
  have R2 := RepS.setL R1 e2 rfl hσ0 m n r'
  have S2 : Same (fz O H1) (fz O (upd H1 a0 (.lst xs'))) := RepS.writeFz R1 m
  exact q y _ R2 (S1.trans S2) (k1.trans (kn_set e2 rfl)) (ry.mono S2)
theorem de_ownL0 {i : Nat} {id : String} {name : Str} {rr : V → List V → Hp → VK → Prop} {op : List D → List D → Option (D × List D)} {x : Str} {p ap : Pos} (slot : Slot "list" name id) (hty : typeOf (.builtin id) = pure (.type "method_descriptor")) (hm : MtM X id rr) (hop : HOp X.K rr op)
    (hN : X.N[i]? = some x := by rfl) (hv : Vis X.env.scope x := by first | exact Or.inl rfl | exact Or.inr (Or.inl rfl) | exact Or.inr (Or.inr rfl)) (hd : (x == ("__debug__" : Str)) = false := by decide) (hcd : (x == ("__classdict__" : Str)) = false := by decide)
    (hbase : attributeBase (.Name x p) name X.env (eval (.Name x p) X.env) = eval (.Name x p) X.env := by rfl) (hline : (ap.endLine == pos.line) = true := by rfl) :
    DE X (.Call (.Attribute (.Name x p) name ap) [] [] pos) (mOwnL i (ret []) op) := by
  refine ⟨fun pins sh σ H Q I h => ?_⟩
  obtain ⟨F, O, s, d, s', R, hf, q⟩ := h
  obtain ⟨ds0, args, s1, ds, ds', e0, h1, e2, e3, e4⟩ := mOwnL_inv hf
  subst e4
  cases h1
  obtain ⟨a, xs, hσ, m, n, g, r⟩ := RepS.atL R e2
  refine (pe_bm0 PySem.F.plainAttrs_list slot hty (mt_len hm) (pe_var hN hv hd hcd) hbase hline).run pins sh σ H Q I ⟨.ref a, hσ, .inl ⟨rfl, xs, SqL.of g⟩, ?_⟩
  refine ⟨a, xs, rfl, g, fun hz => hop O H a xs ds [] [] d ds' Q g hz r .nil e3 fun y xs' r' ry => ?_⟩
  have R2 := RepS.setL R e2 rfl hσ m n r'
  have S2 : Same (fz O H) (fz O (upd H a (.lst xs'))) := RepS.writeFz R m
  exact q y _ R2 S2 (kn_set e2 rfl) (ry.mono S2)
end
def opAppend : List D → List D → Option (D × List D) := fun ds args => match args with
  | [d] => if ds.length < line then some (.none, ds ++ [d]) else none
  | _ => none
theorem h_append {K : PySem.W.Frag} : HOp K rAppend opAppend := by
  intro O H a xs ds vs args r ds' Q g hz rx ra e q
  unfold opAppend at e
  split at e
  · split at e
    · rename_i d hl
      cases e
      cases ra with
      | cons rd rn =>
        cases rn
        exact ⟨a, xs, _, rfl, rfl, g, by rw [rx.len, ← line_eq]; exact hl, q _ _ (rx.app (.cons rd .nil)) .non⟩
    · cases e
  · cases e
def opPop : List D → List D → Option (D × List D) := fun ds args => match args with
  | [] => match ds[ds.length - 1]? with
    | some d => some (d, ds.dropLast)
    | none => none
  | _ => none
theorem RpA.dropLast {K : PySem.W.Frag} {G : Hp} {xs : List V} {ds : List D} (r : RpA K G xs ds) : RpA K G xs.dropLast ds.dropLast := by
  rw [List.dropLast_eq_take, List.dropLast_eq_take, r.len]
  exact r.take _
theorem h_pop {K : PySem.W.Frag} : HOp K rPop opPop := by
  intro O H a xs ds vs args r ds' Q g hz rx ra e q
  unfold opPop at e
  split at e
  · cases ra
    split at e
    · rename_i d ed
      cases e
      obtain ⟨v, hv, rv⟩ := rx.get ed
      exact ⟨a, xs, v, rfl, rfl, g, by rw [rx.len]; exact hv, q _ _ rx.dropLast rv⟩
    · cases e
  · cases e
def opPopAt : List D → List D → Option (D × List D) := fun ds args => match args with
  | [.int i] => match ixN ds.length i with
    | some j => match ds[j]? with
      | some d => some (d, ds.eraseIdx j)
      | none => none
    | none => none
  | _ => none
theorem h_popAt {K : PySem.W.Frag} : HOp K rPopAt opPopAt := by
  intro O H a xs ds vs args r ds' Q g hz rx ra e q
  unfold opPopAt at e
  split at e
  · rename_i i
    cases ra with
    | cons ri rn =>
      cases rn
      have ei := ri.int_inv
      subst ei
      split at e
      · rename_i j ej
        split at e
        · rename_i d ed
          cases e
          obtain ⟨h1, h2, h3, h4⟩ := ixN_seq ej
          obtain ⟨v, hv, rv⟩ := rx.get ed
          have hl : ds.length ≤ sizeLine := by rw [← rx.len]; exact hz
          have hn := line63
          exact ⟨a, xs, i, j, v, rfl, rfl, g, by omega, by omega, by rw [rx.len]; exact h1, hv, q _ _ (rx.eraseIdx j) rv⟩
        · cases e
      · cases e
  · cases e
def opExtend : List D → List D → Option (D × List D) := fun ds args => match args with
  | [.list es] => if ds.length + es.length ≤ line then some (.none, ds ++ es) else none
  | _ => none
theorem h_extend {K : PySem.W.Frag} : HOp K rExtend opExtend := by
  intro O H a xs ds vs args r ds' Q g hz rx ra e q
  unfold opExtend at e
  split at e
  · rename_i es
    split at e
    · rename_i hl
      cases e
      cases ra with
      | cons rd rn =>
        cases rn
        obtain ⟨b, zs, e1, gb, rz⟩ := rd.list_inv
        subst e1
        exact ⟨a, b, xs, zs, rfl, rfl, g, fz_le _ _ gb, by rw [rx.len, rz.len, ← line_eq]; exact hl, q _ _ (rx.app rz) .non⟩
    · cases e
  · cases e

/-! ### x[k] = v, x[k] op= v of an owned list or dict -/
def putD {κ : Type} [DecidableEq κ] (kds : List (κ × D)) (k : κ) (v : D) : List (κ × D) :=
  if kds.any (fun kv => decide (kv.1 = k)) then kds.map (fun kv => if kv.1 = k then (kv.1, v) else kv) else kds ++ [(k, v)]
theorem put_rp {K : PySem.W.Frag} {G : Hp} {κ : Type} [DecidableEq κ] {kvs : List (κ × V)} {kds : List (κ × D)} {k : κ} {y : V} {d : D} (h : kvs.map (·.1) = kds.map (·.1)) (r : RpA K G (kvs.map (·.2)) (kds.map (·.2))) (rd : Rp K G y d) :
    (putK kvs k y).map (·.1) = (putD kds k d).map (·.1) ∧ RpA K G ((putK kvs k y).map (·.2)) ((putD kds k d).map (·.2)) := by
  have ha : (kvs.any fun kv => decide (kv.1 = k)) = kds.any fun kv => decide (kv.1 = k) := by
    have h1 : (kvs.any fun kv => decide (kv.1 = k)) = (kvs.map (·.1)).any fun z => decide (z = k) := by rw [List.any_map]; rfl
    have h2 : (kds.any fun kv => decide (kv.1 = k)) = (kds.map (·.1)).any fun z => decide (z = k) := by rw [List.any_map]; rfl
    rw [h1, h2, h]
  unfold putK putD
  rw [ha]
  split
  · rename_i hany
    clear ha hany
    induction kvs generalizing kds with
    | nil => cases kds with
      | nil => exact ⟨rfl, .nil⟩
      | cons a b => cases h
    | cons p q ih => cases kds with
      | nil => cases h
      | cons a b =>
        have h' := List.cons.inj h
        cases r with
        | cons r1 r2 =>
          obtain ⟨i1, i2⟩ := ih h'.2 r2
          have e1 : p.1 = a.1 := h'.1
          by_cases e : a.1 = k
          · have e' : p.1 = k := e1.trans e
            refine ⟨?_, ?_⟩
            · show (if p.1 = k then (p.1, y) else p).1 :: _ = (if a.1 = k then (a.1, d) else a).1 :: _
              rw [if_pos e, if_pos e', i1, e1]
            · show RpA K G ((if p.1 = k then (p.1, y) else p).2 :: _) ((if a.1 = k then (a.1, d) else a).2 :: _)
              rw [if_pos e, if_pos e']
              exact .cons rd i2
          · have e' : ¬ p.1 = k := fun z => e (e1.symm.trans z)
            refine ⟨?_, ?_⟩
            · show (if p.1 = k then (p.1, y) else p).1 :: _ = (if a.1 = k then (a.1, d) else a).1 :: _
              rw [if_neg e, if_neg e', i1, e1]
            · show RpA K G ((if p.1 = k then (p.1, y) else p).2 :: _) ((if a.1 = k then (a.1, d) else a).2 :: _)
              rw [if_neg e, if_neg e']
              exact .cons r1 i2
  · refine ⟨by rw [List.map_append, List.map_append, h]; rfl, ?_⟩
    rw [List.map_append, List.map_append]
    exact r.app (.cons rd .nil)
/-- the slot behind x[k] = v -/
def decTz (k : D) : Option (List Key) := if Zm.z then none else decT k
theorem decTz_some {k : D} {key : List Key} (h : decTz k = some key) : Zm.z = false ∧ decT k = some key := by
  unfold decTz at h
  split at h
  · cases h
  · rename_i z
    exact ⟨by simpa using z, h⟩
def setSl : Sl → D → D → Option Sl
  | .l ds, .int n, v => match ixN ds.length n with
    | some j => some (.l (ds.set j v))
    | none => none
  | .k kds, k, v => match decK k with
    | some key => if kds.length < line then some (.k (putD kds key v)) else none
    | none => none
  | .t kds, k, v => match decTz k with
    | some key => if kds.length < line then some (.t (putD kds key v)) else none
    | none => none
  | _, _, _ => none
/-- what stands at x[k] -/
def getSl : Sl → D → Option D
  | .l ds, .int n => atI ds n
  | .k kds, k => match decK k with
    | some key => (kds.find? fun kv => decide (kv.1 = key)).map (·.2)
    | none => none
  | .t kds, k => match decTz k with
    | some key => (kds.find? fun kv => decide (kv.1 = key)).map (·.2)
    | none => none
  | _, _ => none
def rSetA : TSet := fun o i v H Q => rSetL o i v H Q ∨ ∃ a H', o = .ref a ∧ DPut H a i v H' ∧ Q H'
theorem len_keys {κ : Type} {kvs : List (κ × V)} {kds : List (κ × D)} (h : kvs.map (·.1) = kds.map (·.1)) : kvs.length = kds.length := by
  have := congrArg List.length h
  simpa using this
section
variable {K : PySem.W.Frag} {F : Fc} {O : List Addr} {H : Hp} {σ : St} {s : S}
theorem RepS.setAt (R : Rs K F O H σ s) {i : Nat} {sl sl' : Sl} {kx vx : V} {k v : D} (e : s.1[i]? = some (some sl)) (e2 : setSl sl k v = some sl') (rk : Rp1 K O H kx k) (rv : Rp K (fz O H) vx v) {Q : Hp → Prop}
    (q : ∀ H', Rs K F O H' σ (s.1.set i (some sl'), s.2) → Same (fz O H) (fz O H') → Q H') : ∃ x, σ[i]? = some (some x) ∧ rSetA x kx vx H Q ∧ sl.own = true := by
  cases sl with
  | v d => cases e2
  | s => cases e2
  | l ds =>
    cases k with
    | int n =>
      have e2' : (match ixN ds.length n with | some j => some (Sl.l (ds.set j v)) | none => none) = some sl' := e2
      cases ej : ixN ds.length n with
      | none => rw [ej] at e2'; cases e2'
      | some j =>
        rw [ej] at e2'
        cases e2'
        obtain ⟨a, xs, hσ, m, nb, g, r⟩ := RepS.atL R e
        refine ⟨_, hσ, .inl ⟨a, xs, n, j, rfl, rk.int_inv, g, by rw [r.len]; exact ej, ?_⟩, rfl⟩
        exact q _ (RepS.setL R e rfl hσ m nb (r.set rv j)) (RepS.writeFz R m)
    | _ => cases e2
  | k kds =>
    have e2' : (match decK k with | some key => if kds.length < line then some (Sl.k (putD kds key v)) else none | none => none) = some sl' := e2
    cases ek : decK k with
    | none => rw [ek] at e2'; cases e2'
    | some key =>
      rw [ek] at e2'
      have e2' : (if kds.length < line then some (Sl.k (putD kds key v)) else none) = some sl' := e2'
      split at e2'
      · rename_i hl
        cases e2'
        obtain ⟨x, hσ, a, kvs, e1, m, nb, g, hk, r⟩ := R.sl i _ e
        subst e1
        have ed := decK_enc ek
        subst ed
        have ekx : kx = kV key := by
          cases key with
          | inl i => exact rk.int_inv
          | inr x => exact rk.str_inv
        subst ekx
        obtain ⟨p1, p2⟩ := put_rp (k := key) hk r rv
        refine ⟨_, hσ, .inr ⟨a, _, rfl, DPut.k g (by rw [len_keys hk, ← line_eq]; exact hl), ?_⟩, rfl⟩
        exact q _ (RepS.write R e rfl hσ m nb ⟨a, _, rfl, m, nb, upd_same, p1, p2.mono (RepS.writeFz R m)⟩) (RepS.writeFz R m)
      · cases e2'
  | t kds =>
    have e2' : (match decTz k with | some key => if kds.length < line then some (Sl.t (putD kds key v)) else none | none => none) = some sl' := e2
    cases ek : decTz k with
    | none => rw [ek] at e2'; cases e2'
    | some key =>
      rw [ek] at e2'
      have e2' : (if kds.length < line then some (Sl.t (putD kds key v)) else none) = some sl' := e2'
      split at e2'
      · rename_i hl
        cases e2'
        obtain ⟨x, hσ, a, kvs, e1, m, nb, g, hk, r⟩ := R.sl i _ e
        subst e1
        have ed := decT_enc (decTz_some ek).2
        subst ed
        obtain ⟨b, ys, ekx, hb, ry⟩ := Rp1.tup_inv rk
        subst ekx
        rw [keys_val ry, (decTz_some ek).1] at hb
        obtain ⟨p1, p2⟩ := put_rp (k := key) hk r rv
        refine ⟨_, hσ, .inr ⟨a, _, rfl, DPut.t g (fz_le _ _ hb) (by rw [len_keys hk, ← line_eq]; exact hl), ?_⟩, rfl⟩
        exact q _ (RepS.write R e rfl hσ m nb ⟨a, _, rfl, m, nb, upd_same, p1, p2.mono (RepS.writeFz R m)⟩) (RepS.writeFz R m)
      · cases e2'
end
section
variable {X : Cx} {pos : Pos}
theorem set_any (hu : X.A.units + 1 < cLine) : PSet X rSetA := by
  intro pins s σ H o i v ov iv u Q I ro ri rv h
  rcases h with h | ⟨a, H', e, hp, q⟩
  · exact set_list pins s σ H o i v ov iv u Q I ro ri rv h
  · subst e
    cases ro
    exact d_setItem hu I hp ri rv fun s' I' => ⟨H', I', q⟩
def isSl (i : Nat) : M Unit := fun s => match s.1[i]? with
  | some (some _) => some ((), s)
  | _ => none
theorem isSl_inv {i : Nat} {s : S} {p : Unit × S} (h : isSl i s = some p) : (∃ sl, s.1[i]? = some (some sl)) ∧ p.2 = s := by
  unfold isSl at h
  split at h
  · rename_i sl e; cases h; exact ⟨⟨sl, e⟩, rfl⟩
  · cases h
/-- a slot is changed -/
def slM {α : Type} (i : Nat) (f : Sl → Option (α × Sl)) : M α := fun s => match s.1[i]? with
  | some (some sl) => (match f sl with
    | none => none
    | some p => some (p.1, (s.1.set i (some p.2), s.2)))
  | _ => none
theorem slM_inv {α : Type} {i : Nat} {f : Sl → Option (α × Sl)} {s s' : S} {a : α} (h : slM i f s = some (a, s')) : ∃ sl sl', s.1[i]? = some (some sl) ∧ f sl = some (a, sl') ∧ s' = (s.1.set i (some sl'), s.2) := by
  unfold slM at h
  split at h
  · rename_i sl e
    split at h
    · cases h
    · rename_i p e2
      cases h
      exact ⟨sl, p.2, e, e2, rfl⟩
  · cases h
def cSetI (i : Nat) (fv fk : M D) : M Fl := bnd fv fun v => bnd (isSl i) fun _ => bnd fk fun k => slM i fun sl => (setSl sl k v).map fun sl' => (.nx, sl')
theorem map_nx {o : Option Sl} {fl : Fl} {sl' : Sl} (h : (o.map fun sl' => (Fl.nx, sl')) = some (fl, sl')) : o = some sl' ∧ fl = .nx := by
  cases o with
  | none => cases h
  | some z => cases h; exact ⟨rfl, rfl⟩
theorem ds_setI (i : Nat) {x : Str} {p tp : Pos} {e k : Expr} {fv fk : M D} (hu : X.A.units + 1 < cLine) (hv : DE X e fv) (hk : DE X k fk)
    (hN : X.N[i]? = some x := by rfl) (hvis : Vis X.env.scope x := by first | exact Or.inl rfl | exact Or.inr (Or.inl rfl) | exact Or.inr (Or.inr rfl)) (hd : (x == ("__debug__" : Str)) = false := by decide) (hcd : (x == ("__classdict__" : Str)) = false := by decide)
    (ha : ∀ v, assign (.Subscript (.Name x p) k tp) X.env v = (do
      let ov ← holding [v] (eval (.Name x p) X.env)
      let iv ← holding [v, ov] (eval k X.env)
      standAt tp
      holding [v, ov, iv] (setItem ov iv v)
      release [v, ov, iv] []) := by intro _; rfl) (hs : swapsWithSole [.Subscript (.Name x p) k tp] e pos.line X.env = pure false := by rfl) (hw : swappedStores [.Subscript (.Name x p) k tp] e X.env = pure none := by rfl)
    (h1 : (assignEach [.Subscript (.Name x p) k tp] X.env).map (·.2) = [assign (.Subscript (.Name x p) k tp) X.env] := by rfl) : DS X (.Assign [.Subscript (.Name x p) k tp] e pos) (cSetI i fv fk) := by
  refine ⟨fun pins sh σ H D I h => ?_⟩
  obtain ⟨F, O, s, fl, s', R, hf, q⟩ := h
  obtain ⟨v, s1, e1, hf1⟩ := bnd_inv hf
  obtain ⟨_, s1', e2, hf2⟩ := bnd_inv hf1
  obtain ⟨⟨sl0, e3⟩, e4⟩ := isSl_inv e2
  have e4 : s1' = s1 := e4
  subst e4
  obtain ⟨kd, s2, e5, hf3⟩ := bnd_inv hf2
  obtain ⟨sl, sl', e6, e7, e8⟩ := slM_inv hf3
  obtain ⟨e9, e10⟩ := map_nx e7
  subst e8 e10
  refine (ps_asg hv (pg_sub (pe_var hN hvis hd hcd) hk (set_any hu) ha) hs hw h1).run pins sh σ H D I ⟨F, O, s, v, _, R, e1, fun y H1 R1 S1 k1 rv => ?_⟩
  obtain ⟨z, hz, _⟩ := R1.sl i _ e3
  refine ⟨z, hz, F, O, _, kd, s2, R1, e5, fun kx H2 R2 S2 k2 rk => ?_⟩
  obtain ⟨z', hz', hr, _⟩ := RepS.setAt R2 e6 e9 (.of rk) (Rp.mono S2 rv) (Q := fun H3 => D.nx σ H3) fun H3 R3 S3 => q σ O H3 R3 (S1.trans (S2.trans S3))
  rw [hz] at hz'
  cases hz'
  exact hr
/-! x[k] op= e -/
def rGetA (K : PySem.W.Frag) : V → V → Hp → VK → Prop := fun o i H Q => rIxL K o i H Q ∨ ∃ a v, o = .ref a ∧ DGet H a i (some v) ∧ Q v H
theorem get_any (hu : X.A.units + 1 < cLine) : PGet X (rGetA X.K) := by
  intro pins s σ H o i ov iv Q I ro ri h
  rcases h with ⟨p, xs, n, v, rfl, rfl, hq, he, q⟩ | ⟨a, v, rfl, hg, q⟩
  · cases ro
    obtain ⟨t, rfl⟩ := ri
    obtain ⟨its, r, pl, hz⟩ := I.list hq
    obtain ⟨j, h1, h2, h3, h4, h5⟩ := atI_get he
    obtain ⟨w, ew, rw'⟩ := r.get h2
    have hl := r.length
    have hn := line63
    by_cases h0 : 0 ≤ n
    · have hj : n.toNat = j := by
        rw [seqIndex_of h0 h5] at h1
        exact Option.some.inj h1
      exact wpAny_getItem_list pl.isList h0 (by omega) (x := w) (by rw [hj]; simpa using ew) ⟨v, H, I, rw', q⟩
    · have hj : (n + (its.toArray.size : Int)).toNat = j := by
        rw [seqIndex_neg (by omega) h4] at h1
        rw [List.size_toArray, ← hl]
        exact Option.some.inj h1
      exact wpAny_getItem_list_neg (x := w) pl.isList (by omega) (by rw [List.size_toArray] <;> omega) (by omega) (by rw [hj]; simpa using ew) ⟨v, H, I, rw', q⟩
  · cases ro
    exact d_getItem hu I hg ri fun w' s' I' rw' => ⟨v, H, I', rw', q⟩
theorem find_enc {K : PySem.W.Frag} {G : Hp} {κ : Type} [DecidableEq κ] {k : κ} : ∀ {kvs : List (κ × V)} {kds : List (κ × D)} {d : D}, kvs.map (·.1) = kds.map (·.1) → RpA K G (kvs.map (·.2)) (kds.map (·.2)) → (kds.find? fun kv => decide (kv.1 = k)).map (·.2) = some d → ∃ v, valV kvs k = some v ∧ Rp K G v d
  | [], [], _, _, _, e => by cases e
  | [], _ :: _, _, h, _, _ => by cases h
  | _ :: _, [], _, h, _, _ => by cases h
  | p :: q, a :: b, d, h, r, e => by
    have h' := List.cons.inj h
    have e1 : p.1 = a.1 := h'.1
    cases r with
    | cons r1 r2 =>
      rw [List.find?_cons] at e
      by_cases z : a.1 = k
      · rw [decide_eq_true z] at e
        cases e
        exact ⟨p.2, valV_pos (e1.trans z), r1⟩
      · rw [decide_eq_false z] at e
        obtain ⟨v, hv, rv⟩ := find_enc h'.2 r2 e
        exact ⟨v, by rw [valV_neg (fun w => z (e1.symm.trans w))]; exact hv, rv⟩
theorem RepS.getAt {K : PySem.W.Frag} {F : Fc} {O : List Addr} {H : Hp} {σ : St} {s : S} (R : Rs K F O H σ s) {i : Nat} {sl : Sl} {kx : V} {k d : D} (e : s.1[i]? = some (some sl)) (e2 : getSl sl k = some d) (rk : Rp1 K O H kx k) {Q : VK}
    (q : ∀ v, Rp K (fz O H) v d → Q v H) : ∃ x, σ[i]? = some (some x) ∧ rGetA K x kx H Q := by
  cases sl with
  | v d => cases e2
  | s => cases e2
  | l ds =>
    cases k with
    | int n =>
      have e2' : atI ds n = some d := e2
      obtain ⟨a, xs, hσ, m, nb, g, r⟩ := RepS.atL R e
      obtain ⟨v, hv, rv⟩ := at_rp r e2'
      exact ⟨_, hσ, .inl ⟨a, xs, n, v, rfl, rk.int_inv, SqL.of g, hv, q v rv⟩⟩
    | _ => cases e2
  | k kds =>
    have e2' : (match decK k with | some key => (kds.find? fun kv => decide (kv.1 = key)).map (·.2) | none => none) = some d := e2
    cases ek : decK k with
    | none => rw [ek] at e2'; cases e2'
    | some key =>
      rw [ek] at e2'
      obtain ⟨x, hσ, a, kvs, e1, m, nb, g, hk, r⟩ := R.sl i _ e
      subst e1
      have ed := decK_enc ek
      subst ed
      have ekx : kx = kV key := by
        cases key with
        | inl i => exact rk.int_inv
        | inr x => exact rk.str_inv
      subst ekx
      obtain ⟨v, hv, rv⟩ := find_enc hk r e2'
      exact ⟨_, hσ, .inr ⟨a, v, rfl, by rw [← hv]; exact DGet.k g, q v rv⟩⟩
  | t kds =>
    have e2' : (match decTz k with | some key => (kds.find? fun kv => decide (kv.1 = key)).map (·.2) | none => none) = some d := e2
    cases ek : decTz k with
    | none => rw [ek] at e2'; cases e2'
    | some key =>
      rw [ek] at e2'
      obtain ⟨x, hσ, a, kvs, e1, m, nb, g, hk, r⟩ := R.sl i _ e
      subst e1
      have ed := decT_enc (decTz_some ek).2
      subst ed
      obtain ⟨b, ys, ekx, hb, ry⟩ := Rp1.tup_inv rk
      subst ekx
      rw [keys_val ry, (decTz_some ek).1] at hb
      obtain ⟨v, hv, rv⟩ := find_enc hk r e2'
      exact ⟨_, hσ, .inr ⟨a, v, rfl, by rw [← hv]; exact DGet.t g (fz_le _ _ hb), q v rv⟩⟩
/-- what an operator makes of two ints, in place -/
def InI (X : Cx) (op : Operator) (o : Int → Int → Option Int) : Prop := ∃ C : Int → Int → Prop, ∃ g : Int → Int → Int, OpR X (inplaceOp op) (rI C fun i j => .int (g i j)) ∧ ∀ i j r, o i j = some r → C i j ∧ r = g i j
def intO (o : Int → Int → Option Int) (d e : D) : Option Int := match d, e with
  | .int i, .int j => o i j
  | _, _ => none
theorem intO_inv {o : Int → Int → Option Int} {d e : D} {r : Int} (h : intO o d e = some r) : ∃ i j, d = .int i ∧ e = .int j ∧ o i j = some r := by
  unfold intO at h
  split at h
  · exact ⟨_, _, rfl, rfl, h⟩
  · cases h
def cAugI (i : Nat) (o : Int → Int → Option Int) (fk fe : M D) : M Fl := bnd (isSl i) fun _ => bnd fk fun k => bnd (slM i fun sl => (getSl sl k).map fun d => (d, sl)) fun old => bnd fe fun e => slM i fun sl => match intO o old e with
  | none => none
  | some r => (setSl sl k (.int r)).map fun sl' => (.nx, sl')
theorem set_self {e : DEnv} {i : Nat} {sl : Sl} (h : e[i]? = some (some sl)) : e.set i (some sl) = e := by
  apply List.ext_getElem?
  intro j
  by_cases hj : i = j
  · subst hj
    rw [List.getElem?_set_self (List.getElem?_eq_some_iff.mp h).1, h]
  · rw [List.getElem?_set_ne hj]
theorem ds_augI (i : Nat) {x : Str} {p tp : Pos} {e k : Expr} {fk fe : M D} {op : Operator} {o : Int → Int → Option Int} (hu : X.A.units + 1 < cLine) (hop : InI X op o) (hk : DE X k fk) (he : DE X e fe)
    (hN : X.N[i]? = some x := by rfl) (hvis : Vis X.env.scope x := by first | exact Or.inl rfl | exact Or.inr (Or.inl rfl) | exact Or.inr (Or.inr rfl)) (hd : (x == ("__debug__" : Str)) = false := by decide) (hcd : (x == ("__classdict__" : Str)) = false := by decide)
    (ha : ∀ ov iv new, augStore k ov iv new = (do holding [new, ov, iv] (setItem ov iv new); release [new, ov, iv] []; pure .next) := by intros; rfl) : DS X (.AugAssign (.Subscript (.Name x p) k tp) op e pos) (cAugI i o fk fe) := by
  refine ⟨fun pins sh σ H D I h => ?_⟩
  obtain ⟨F, O, s, fl, s', R, hf, q⟩ := h
  obtain ⟨_, s0, e2, hf1⟩ := bnd_inv hf
  obtain ⟨⟨sl0, e3⟩, e4⟩ := isSl_inv e2
  have e4 : s0 = s := e4
  subst e4
  obtain ⟨kd, s1, e5, hf2⟩ := bnd_inv hf1
  obtain ⟨old, s2, e6, hf3⟩ := bnd_inv hf2
  obtain ⟨sl, sl', e7, e8, e9⟩ := slM_inv e6
  have e10 : getSl sl kd = some old ∧ sl' = sl := by
    cases eg : getSl sl kd with
    | none => rw [eg] at e8; cases e8
    | some z => rw [eg] at e8; cases e8; exact ⟨rfl, rfl⟩
  obtain ⟨eg, e11⟩ := e10
  subst e11
  rw [set_self e7] at e9
  have e9 : s2 = s1 := e9
  subst e9
  obtain ⟨ev, s3, e12, hf4⟩ := bnd_inv hf3
  obtain ⟨sl3, sl4, e13, e14, e15⟩ := slM_inv hf4
  cases e16 : intO o old ev with
  | none => rw [e16] at e14; cases e14
  | some r =>
    rw [e16] at e14
    obtain ⟨e17, e18⟩ := map_nx e14
    obtain ⟨a1, a2, ea1, ea2, eo⟩ := intO_inv e16
    subst ea1 ea2 e15 e18
    obtain ⟨C, g, hor, hC⟩ := hop
    obtain ⟨hc, er⟩ := hC _ _ _ eo
    subst er
    obtain ⟨z, hz, _⟩ := R.sl i _ e3
    refine (ps_augS (tip := fun x y H Q => rI C (fun i j => .int (g i j)) x y H Q) (pe_var hN hvis hd hcd) hk (get_any hu) he hor (set_any hu) ha).run pins sh σ H D I ⟨z, hz, F, O, _, kd, _, R, e5, fun kx H1 R1 S1 k1 rk => ?_⟩
    obtain ⟨z', hz', hg⟩ := RepS.getAt R1 e7 eg (.of rk) (Q := fun ox H2 => TG X.K (relV X.K) fe σ H2 fun y H4 => rI C (fun i j => .int (g i j)) ox y H4 fun w H5 => rSetA z kx w H5 fun H6 => D.nx σ H6) fun ov rov => by
      refine ⟨F, O, _, _, s3, R1, e12, fun y H2 R2 S2 k2 ry => ⟨a1, a2, rov.int_inv, ry.int_inv, hc, ?_⟩⟩
      obtain ⟨z2, hz2, hr, _⟩ := RepS.setAt R2 e13 e17 (.of (Rp.mono S2 rk)) (Rp.int (g a1 a2)) (Q := fun H3 => D.nx σ H3) fun H3 R3 S3 => q σ O H3 R3 (S1.trans (S2.trans S3))
      rw [hz] at hz2
      cases hz2
      exact hr
    rw [hz] at hz'
    cases hz'
    exact hg
def oAdd : Int → Int → Option Int := fun i j => some (i + j)
def oSub : Int → Int → Option Int := fun i j => some (i - j)
theorem in_addI : InI X .Add oAdd := ⟨fun _ _ => True, fun i j => i + j, by
  intro pins s σ H x y v u Q I rx ry h
  obtain ⟨i, j, e1, e2, _, q⟩ := h
  exact iop_add pins s σ H x y v u Q I rx ry ⟨i, j, e1, e2, q⟩, fun i j r h => ⟨trivial, (Option.some.inj h).symm⟩⟩
theorem in_subI : InI X .Sub oSub := ⟨fun _ _ => True, fun i j => i - j, by
  intro pins s σ H x y v u Q I rx ry h
  obtain ⟨i, j, e1, e2, _, q⟩ := h
  exact iop_sub pins s σ H x y v u Q I rx ry ⟨i, j, e1, e2, q⟩, fun i j r h => ⟨trivial, (Option.some.inj h).symm⟩⟩
/-- x op= e, x a name that holds an int -/
def cAug (i : Nat) (o : Int → Int → Option Int) (fe : M D) : M Fl := bnd (mVar i) fun old => bnd fe fun e => bnd (lft (intO o old e)) fun r => bnd (putM i (.v (.int r))) fun _ => ret .nx
theorem ds_aug (i : Nat) {x : Str} {e : Expr} {fe : M D} {op : Operator} {o : Int → Int → Option Int} {pos' : Pos} (hN : X.N.Nodup) (hop : InI X op o) (he : DE X e fe) (hi : X.N[i]? = some x := by rfl) (hx : Loc X.env.scope x := by first | exact Or.inl rfl | exact Or.inr rfl)
    (hf : X.fn x = true ∨ X.env.scope.names.lookup x = some .local := by first | exact .inl rfl | exact .inr rfl) : DS X (.AugAssign (.Name x pos') op e pos) (cAug i o fe) := by
  refine ⟨fun pins sh σ H D I h => ?_⟩
  obtain ⟨F, O, s, fl, s', R, hw, q⟩ := h
  obtain ⟨old, s1, e1, hw⟩ := bnd_inv hw
  obtain ⟨ev, s2, e2, hw⟩ := bnd_inv hw
  obtain ⟨r, s3, e3, hw⟩ := bnd_inv hw
  obtain ⟨r', e4, e5⟩ := lft_inv e3
  cases e5
  obtain ⟨_, s4, e6, hw⟩ := bnd_inv hw
  obtain ⟨hl, e7⟩ := putM_inv e6
  cases e7
  cases hw
  unfold mVar at e1
  split at e1
  · rename_i d ed
    cases e1
    obtain ⟨a1, a2, ea1, ea2, eo⟩ := intO_inv e4
    subst ea1 ea2
    obtain ⟨C, g, hor, hC⟩ := hop
    obtain ⟨hc, er⟩ := hC _ _ _ eo
    subst er
    obtain ⟨z, hz, rz⟩ := R.sl i _ ed
    refine (ps_aug (ti := fun x y H Q => rI C (fun i j => .int (g i j)) x y H Q) hN hi hx he hor hf).run pins sh σ H D I ⟨z, hz, F, O, _, _, _, R, e2, fun y H1 R1 S1 k1 ry => ?_⟩
    exact ⟨a1, a2, Rp.int_inv rz, ry.int_inv, hc, q _ O H1 (put_v R1 hl (.int _)) S1⟩
  · cases e1
end
end DL
set_option Elab.async false
set_option linter.all false
set_option maxRecDepth 100000
set_option maxHeartbeats 1000000
/-! DL8: a, b = x, y: several names at once, fresh lists among what they are given. -/
namespace DL
open PySem PySem.Spec L2
open PyProof.Rows hiding St
variable [Zm]

def Fc.withs (F : Fc) : List (Addr × HO) → Fc
  | [] => F
  | p :: L => (F.withs L).with p.1 p.2
theorem withs_sa (F : Fc) : ∀ L, (F.withs L).sa = F.sa ∧ (F.withs L).ca = F.ca
  | [] => ⟨rfl, rfl⟩
  | _ :: L => withs_sa F L
theorem withs_B (F : Fc) {b : Addr} : ∀ {L : List (Addr × HO)}, b ∈ F.B → b ∈ (F.withs L).B
  | [], h => h
  | _ :: L, h => List.mem_cons_of_mem _ (withs_B F h)
theorem RepS.congr {K : PySem.W.Frag} {F G : Fc} {O : List Addr} {H : Hp} {σ : St} {env : DEnv} {st : Src} (R : RepS K F O H σ env st) (hB : ∀ b, b ∈ G.B ↔ b ∈ F.B) (hH : ∀ b, G.He b = F.He b) (h1 : G.sa = F.sa) (h2 : G.ca = F.ca) : RepS K G O H σ env st := by
  refine ⟨R.len, fun i s e => ?_, R.dist, by rw [h1, h2]; exact R.src, by rw [h1]; exact (hB _).mpr R.saB, by rw [h2]; exact (hB _).mpr R.caB, fun b hb => R.sub b ((hB b).mp hb), R.dom, fun b hb => ?_, fun b o e n => R.old b o (by rw [← hH]; exact e) fun z => n ((hB b).mpr z), fun b hb n1 n2 => ?_⟩
  · obtain ⟨x, hx, r⟩ := R.sl i s e
    refine ⟨x, hx, ?_⟩
    cases s with
    | v d => exact r
    | l ds => obtain ⟨a, xs, e1, m, n, q⟩ := r; exact ⟨a, xs, e1, m, fun z => n ((hB a).mp z), q⟩
    | k ds => obtain ⟨a, xs, e1, m, n, q⟩ := r; exact ⟨a, xs, e1, m, fun z => n ((hB a).mp z), q⟩
    | t ds => obtain ⟨a, xs, e1, m, n, q⟩ := r; exact ⟨a, xs, e1, m, fun z => n ((hB a).mp z), q⟩
    | s => 
      have r : x = .ref F.sa := r
      show x = .ref G.sa
      rw [h1]; exact r
  · rcases R.fresh b hb with z | z
    · exact .inl ((hB b).mpr z)
    · exact .inr (by rw [hH]; exact z)
  · rw [hH]
    exact R.oldB b ((hB b).mp hb) (by rw [← h1]; exact n1) (by rw [← h2]; exact n2)
/-- what is to be stored: data, lists that are held still until they are -/
inductive Pend (K : PySem.W.Frag) (F : Fc) (O : List Addr) (H : Hp) : List (Addr × HO) → List V → List Sl → Prop
  | nil : Pend K F O H [] [] []
  | v {L : List (Addr × HO)} {x : V} {d : D} {xs : List V} {sls : List Sl} : Rp K (fz O H) x d → Pend K F O H L xs sls → Pend K F O H L (x :: xs) (.v d :: sls)
  | l {L : List (Addr × HO)} {p : Addr} {ys : List V} {ds : List D} {xs : List V} {sls : List Sl} : RpA K (fz O H) ys ds → (F.withs L).He p = none → p ∉ (F.withs L).B → Pend K F O H L xs sls →
      Pend K F O H ((p, .lst ys) :: L) (.ref p :: xs) (.l ds :: sls)
theorem Pend.len {K : PySem.W.Frag} {F : Fc} {O : List Addr} {H : Hp} : ∀ {L : List (Addr × HO)} {xs : List V} {sls : List Sl}, Pend K F O H L xs sls → xs.length = sls.length
  | _, _, _, .nil => rfl
  | _, _, _, .v _ r => congrArg (· + 1) r.len
  | _, _, _, .l _ _ _ r => congrArg (· + 1) r.len
theorem Pend.mono {K : PySem.W.Frag} {F : Fc} {O O' : List Addr} {H H' : Hp} (h : Same (fz O H) (fz O' H')) : ∀ {L : List (Addr × HO)} {xs : List V} {sls : List Sl}, Pend K F O H L xs sls → Pend K F O' H' L xs sls
  | _, _, _, .nil => .nil
  | _, _, _, .v a r => .v (a.mono h) (r.mono h)
  | _, _, _, .l a b c r => .l (a.mono h) b c (r.mono h)
def TGX (K : PySem.W.Frag) (f : M (List Sl)) : TA := fun σ H Q => ∃ (F : Fc) (O : List Addr) (s : S) (sls : List Sl) (s' : S), Rs K F O H σ s ∧ f s = some (sls, s') ∧
  ∀ xs O' H' L, Rs K (F.withs L) O' H' σ s' → Same (fz O H) (fz O' H') → Pend K F O' H' L xs sls → Q xs H'
abbrev DXs (X : Cx) (es : List Expr) (f : M (List Sl)) : Prop := PA X es (TGX X.K f)
section
variable {X : Cx} {pos : Pos}
theorem dxs_nil : DXs X [] (ret []) := by
  refine ⟨fun pos pins sh σ H Q I h => ?_⟩
  obtain ⟨F, O, s, a, s', R, hf, q⟩ := h
  cases hf
  exact pa_nil.run pos pins sh σ H Q I (q [] O H [] R (Same.refl _) .nil)
def cConsV (f : M D) (g : M (List Sl)) : M (List Sl) := bnd f fun d => bnd g fun r => ret (.v d :: r)
def cConsL (f : M (List D)) (g : M (List Sl)) : M (List Sl) := bnd f fun d => bnd g fun r => ret (.l d :: r)
theorem dxs_v {e : Expr} {es : List Expr} {f : M D} {g : M (List Sl)} (ha : DE X e f) (hr : DXs X es g) (hs : starEach (e :: es) X.env = (false, eval e X.env) :: starEach es X.env := by rfl) : DXs X (e :: es) (cConsV f g) := by
  refine ⟨fun pos pins sh σ H Q I h => ?_⟩
  obtain ⟨F, O, s, a, s', R, hf, q⟩ := h
  obtain ⟨d, s1, h1, hf⟩ := bnd_inv hf
  obtain ⟨r, s2, h2, hf⟩ := bnd_inv hf
  cases hf
  refine (pa_cons ha hr hs).run pos pins sh σ H Q I ⟨F, O, s, _, _, R, h1, fun x H1 a b k o => ⟨F, O, s1, _, _, a, h2, fun xs O2 H2 L a2 b2 pd => ?_⟩⟩
  exact q _ O2 H2 L a2 (b.trans b2) (.v (Rp.mono b2 o) pd)
theorem pend_with {K : PySem.W.Frag} {F : Fc} {p : Addr} {o : HO} {O : List Addr} {H : Hp} : ∀ {L : List (Addr × HO)} {xs : List V} {sls : List Sl}, Pend K (F.with p o) O H L xs sls → F.He p = none → p ∉ F.B →
    Pend K F O H L xs sls ∧ (F.withs L).He p = none ∧ p ∉ (F.withs L).B ∧ (∀ b, b ∈ ((F.with p o).withs L).B ↔ b ∈ ((F.withs L).with p o).B) ∧ ∀ b, ((F.with p o).withs L).He b = ((F.withs L).with p o).He b
  | _, _, _, .nil, h0, nb => ⟨.nil, h0, nb, fun _ => Iff.rfl, fun _ => rfl⟩
  | _, _, _, .v a r, h0, nb => by
    obtain ⟨i1, i2⟩ := pend_with r h0 nb
    exact ⟨.v a i1, i2⟩
  | _, _, _, .l (L := L) (p := q) (ys := ys) a b c r, h0, nb => by
    obtain ⟨i1, i2, i3, i4, i5⟩ := pend_with r h0 nb
    have qp : q ≠ p := fun z => c ((i4 q).mpr (by rw [z]; exact List.mem_cons_self))
    have bq : (F.withs L).He q = none := by
      have := i5 q
      rw [b] at this
      have this : none = upd (F.withs L).He p o q := this
      rw [upd_ne qp] at this
      exact this.symm
    refine ⟨.l a bq (fun z => c ((i4 q).mpr (List.mem_cons_of_mem _ z))) i1, ?_, ?_, fun b' => ?_, fun b' => ?_⟩
    · show upd (F.withs L).He q _ p = none
      rw [upd_ne (Ne.symm qp)]; exact i2
    · exact fun z => (List.mem_cons.mp z).elim (fun w => qp w.symm) i3
    · constructor
      · intro z
        rcases List.mem_cons.mp z with w | w
        · exact List.mem_cons_of_mem _ (by rw [w]; exact List.mem_cons_self)
        · rcases List.mem_cons.mp ((i4 b').mp w) with u | u
          · rw [u]; exact List.mem_cons_self
          · exact List.mem_cons_of_mem _ (List.mem_cons_of_mem _ u)
      · intro z
        rcases List.mem_cons.mp z with w | w
        · exact List.mem_cons_of_mem _ ((i4 b').mpr (by rw [w]; exact List.mem_cons_self))
        · rcases List.mem_cons.mp w with u | u
          · rw [u]; exact List.mem_cons_self
          · exact List.mem_cons_of_mem _ ((i4 b').mpr (List.mem_cons_of_mem _ u))
    · show upd ((F.with p o).withs L).He q _ b' = upd (upd (F.withs L).He q _) p o b'
      by_cases z : b' = q
      · rw [z, upd_same, upd_ne qp, upd_same]
      · rw [upd_ne z, i5 b']
        show upd (F.withs L).He p o b' = _
        by_cases w : b' = p
        · rw [w, upd_same, upd_same]
        · rw [upd_ne w, upd_ne w, upd_ne z]
theorem dxs_l {e : Expr} {es : List Expr} {f : M (List D)} {g : M (List Sl)} (ha : DF X e f) (hr : DXs X es g) (hs : starEach (e :: es) X.env = (false, eval e X.env) :: starEach es X.env := by rfl) : DXs X (e :: es) (cConsL f g) := by
  refine ⟨fun pos pins sh σ H Q I h => ?_⟩
  obtain ⟨F, O, s, a, s', R, hf, q⟩ := h
  obtain ⟨d, s1, h1, hf⟩ := bnd_inv hf
  obtain ⟨r, s2, h2, hf⟩ := bnd_inv hf
  cases hf
  refine (pa_cons ha hr hs).run pos pins sh σ H Q I ⟨F, O, s, _, _, R, h1, fun p ys H1 a b k nO nB ne hp rys => ?_⟩
  have L1 := RepS.lock a List.mem_cons_self nB hp ne
  have h0 := RepS.He_none a List.mem_cons_self nB
  refine ⟨F.with p (.lst ys), p :: O, s1, _, _, L1, h2, fun xs O2 H2 L a2 b2 pd => ?_⟩
  obtain ⟨i1, i2, i3, i4, i5⟩ := pend_with pd h0 nB
  have s1 := withs_sa (F.with p (.lst ys)) L
  have s2 := withs_sa F L
  refine q _ O2 H2 ((p, .lst ys) :: L) (RepS.congr a2 (fun b => (i4 b).symm) (fun b => (i5 b).symm) (s2.1.trans s1.1.symm) (s2.2.trans s1.2.symm)) (b.trans b2) (.l (rys.mono b2) i2 i3 i1)

/-! ### stored at names -/
def setsE : List Nat → List Sl → DEnv → Option DEnv
  | [], [], e => some e
  | i :: is, sl :: sls, e => if i < e.length then setsE is sls (e.set i (some sl)) else none
  | _, _, _ => none
def setsσ : List Nat → List V → St → St
  | i :: is, x :: xs, σ => setsσ is xs (σ.set i (some x))
  | _, _, σ => σ
theorem put_pend {K : PySem.W.Frag} {F : Fc} {O : List Addr} {H : Hp} {σ : St} {s : S} {i : Nat} {p : Addr} {ys : List V} {ds : List D} (R : Rs K (F.with p (.lst ys)) O H σ s) (hi : i < s.1.length) (h0 : F.He p = none) (nb : p ∉ F.B) (hsa : F.sa ∈ F.B) (hca : F.ca ∈ F.B) (r : RpA K (fz O H) ys ds) :
    Rs K F O H (σ.set i (some (.ref p))) (s.1.set i (some (.l ds)), s.2) := by
  obtain ⟨U, hp⟩ := RepS.unlock R h0 nb hsa hca
  have pO : p ∈ O := R.sub p List.mem_cons_self
  refine RepS.put U (by rw [← R.len]; exact hi) ⟨p, ys, rfl, pO, nb, hp, r⟩ fun _ j sj a hj e o z q => ?_
  cases z
  obtain ⟨x, hx, rr⟩ := R.sl j sj e
  obtain ⟨a, e1, _, n⟩ := rr.addr o
  rw [q] at hx
  have : V.ref p = x := Option.some.inj (Option.some.inj hx)
  rw [e1] at this
  cases this
  exact n List.mem_cons_self
theorem pend_names {K : PySem.W.Frag} {F : Fc} {O : List Addr} {H : Hp} (hsa : F.sa ∈ F.B) (hca : F.ca ∈ F.B) {L : List (Addr × HO)} {xs : List V} {sls : List Sl} (pd : Pend K F O H L xs sls) : ∀ {is : List Nat} {σ : St} {s : S} {env' : DEnv}, Rs K (F.withs L) O H σ s → setsE is sls s.1 = some env' →
    Rs K F O H (setsσ is xs σ) (env', s.2) := by
  induction pd with
  | nil =>
    intro is σ s env' R e
    cases is with
    | nil => cases e; exact R
    | cons i is => cases e
  | v a r ih =>
    intro is σ s env' R e
    cases is with
    | nil => cases e
    | cons i is =>
      unfold setsE at e
      split at e
      · rename_i hi
        exact ih (s := (s.1.set i _, s.2)) (put_v R hi a) e
      · cases e
  | l a b c r ih =>
    rename_i L p ys ds xs sls
    intro is σ s env' R e
    cases is with
    | nil => cases e
    | cons i is =>
      unfold setsE at e
      split at e
      · rename_i hi
        have w := withs_sa F L
        exact ih (s := (s.1.set i _, s.2)) (put_pend R hi b c (by rw [w.1]; exact withs_B F hsa) (by rw [w.2]; exact withs_B F hca) a) e
      · cases e
def cPar (f : M (List Sl)) (is : List Nat) : M Fl := bnd f fun sls s => match setsE is sls s.1 with
  | none => none
  | some env' => some (.nx, (env', s.2))
theorem cPar_inv {f : M (List Sl)} {is : List Nat} {s s' : S} {fl : Fl} (h : cPar f is s = some (fl, s')) : ∃ sls s1 env', f s = some (sls, s1) ∧ setsE is sls s1.1 = some env' ∧ fl = .nx ∧ s' = (env', s1.2) := by
  obtain ⟨sls, s1, h1, h2⟩ := bnd_inv h
  cases e : setsE is sls s1.1 with
  | none => rw [e] at h2; cases h2
  | some env' => rw [e] at h2; cases h2; exact ⟨sls, s1, env', h1, e, rfl, rfl⟩
theorem setsE_len : ∀ {is : List Nat} {sls : List Sl} {e e' : DEnv}, setsE is sls e = some e' → is.length = sls.length
  | [], [], _, _, _ => rfl
  | [], _ :: _, _, _, h => by cases h
  | _ :: _, [], _, _, h => by cases h
  | i :: is, sl :: sls, e, e', h => by
    unfold setsE at h
    split at h
    · exact congrArg (· + 1) (setsE_len h)
    · cases h
theorem par_end {K : PySem.W.Frag} {f : M (List Sl)} {is : List Nat} {σ : St} {H : Hp} {D : Ends} (h : TGS K (cPar f is) D σ H) : TGX K f σ H fun vs H1 => vs.length = is.length ∧ D.nx (setsσ is vs σ) H1 := by
  obtain ⟨F, O, s, fl, s', R, hf, q⟩ := h
  obtain ⟨sls, s1, env', h1, h2, e1, e2⟩ := cPar_inv hf
  subst e1 e2
  refine ⟨F, O, s, sls, s1, R, h1, fun xs O' H' L R' S' pd => ⟨by rw [pd.len, setsE_len h2], ?_⟩⟩
  exact q _ O' H' (pend_names R.saB R.caB pd R' h2) S'
theorem ds_par2 (i j : Nat) {x y : Str} {a b : Expr} {f : M (List Sl)} {px py pt : Pos} {kt k2 pt2} (hc : X.calm = true) (hN : X.N.Nodup) (ha : DXs X [a, b] f) (hi : X.N[i]? = some x := by rfl) (hj : X.N[j]? = some y := by rfl) (hij : i ≠ j := by decide)
    (hx : X.env.scope.names.lookup x = some .local := by rfl) (hy : X.env.scope.names.lookup y = some .local := by rfl)
    (hw : swappedStores [.Tuple [.Name x px, .Name y py] kt pt] (.Tuple [a, b] k2 pt2) X.env = pure (some [x, y]) := by rfl)
    (hs : swapsWithSole [.Tuple [.Name x px, .Name y py] kt pt] (.Tuple [a, b] k2 pt2) pos.line X.env = pure false := by rfl) : DS X (.Assign [.Tuple [.Name x px, .Name y py] kt pt] (.Tuple [a, b] k2 pt2) pos) (cPar f [i, j]) := by
  refine ⟨fun pins sh σ H D I h => ?_⟩
  have h' := par_end h
  refine (ps_par hc hN hi hj hij hx hy ha hw hs).run pins sh σ H D I ?_
  obtain ⟨F, O, s, sls, s1, R, h1, q⟩ := h'
  refine ⟨F, O, s, sls, s1, R, h1, fun xs O' H' L R' S' pd => ?_⟩
  obtain ⟨q1, q2⟩ := q xs O' H' L R' S' pd
  match xs, q1, q2 with
  | [v, w], _, q2 => exact ⟨v, w, rfl, q2⟩
/-- three names -/
theorem ds_par3 (i j k : Nat) {x y z : Str} {a b c : Expr} {f : M (List Sl)} {px py pz pt : Pos} {kt k2 pt2} (hc : X.calm = true) (hN : X.N.Nodup) (ha : DXs X [a, b, c] f) (hi : X.N[i]? = some x := by rfl) (hj : X.N[j]? = some y := by rfl) (hk : X.N[k]? = some z := by rfl) (hij : i ≠ j := by decide) (hik : i ≠ k := by decide) (hjk : j ≠ k := by decide)
    (hx : X.env.scope.names.lookup x = some .local := by rfl) (hy : X.env.scope.names.lookup y = some .local := by rfl) (hz : X.env.scope.names.lookup z = some .local := by rfl)
    (hw : swappedStores [.Tuple [.Name x px, .Name y py, .Name z pz] kt pt] (.Tuple [a, b, c] k2 pt2) X.env = pure (some [x, y, z]) := by rfl)
    (hs : swapsWithSole [.Tuple [.Name x px, .Name y py, .Name z pz] kt pt] (.Tuple [a, b, c] k2 pt2) pos.line X.env = pure false := by rfl) : DS X (.Assign [.Tuple [.Name x px, .Name y py, .Name z pz] kt pt] (.Tuple [a, b, c] k2 pt2) pos) (cPar f [i, j, k]) := by
  refine ⟨fun pins s σ H D I h => ?_⟩
  have h' := par_end h
  rw [exec_Assign_arm]
  refine wpAny_bind (wpAny_standAt ?_)
  rw [hs]
  refine wpAny_bind (wpAny_pure ?_)
  rw [if_neg (by decide)]
  refine wpAny_bind (PyProof.Rows.Tuple_ (thn (ha.run _ pins s σ H _ I h') fun us s1 ⟨vs, H1, I1, r1, q1, q2⟩ => ?_))
  obtain ⟨u1, u2, u3, v1, v2, v3, rfl, rfl, rv1, rv2, rv3⟩ : ∃ u1 u2 u3 v1 v2 v3, us = [u1, u2, u3] ∧ vs = [v1, v2, v3] ∧ RelV v1 u1 ∧ RelV v2 u2 ∧ RelV v3 u3 := by
    cases r1 with
    | nil => cases q1
    | cons p r1 => cases r1 with
      | nil => cases q1
      | cons p' r1 => cases r1 with
        | nil => cases q1
        | cons p'' r1 => cases r1 with
          | nil => exact ⟨_, _, _, _, _, _, rfl, rfl, p, p', p''⟩
          | cons _ _ => exact absurd q1 (by simp)
  refine wpAny_newObj_type ?_ (by show 3 ≤ sizeLine; decide)
  have I2 : Inv X pins σ H1 { s1 with heap := s1.heap.push { cls := .type "tuple", data := .seq [u1, u2, u3].toArray } } := I1.kept (t' := s1.toks) fun b o e => Heap.get?_push_of_some _ e
  rw [hw]
  refine wpAny_bind (wpAny_pure ?_)
  show wpAny (model X.prog X.w) X.A (do rule "assign.swapped-stores"; let items ← unpackItems (.ref s1.heap.objs.size) 3 none; assignInOrder [fun v => bindName X.env z v, fun v => bindName X.env y v, fun v => bindName X.env x v] items.reverse; pure Flow.next) _ _ _
  refine wpAny_bind (wpAny_rule (wpAny_bind (PyProof.Rows.unpackItems_tuple (items := #[u1, u2, u3]) (I.ok.hd hc) (IsTup.new s1.heap _) fun h' hx' => ?_)))
  have I3 := I2.kept (h' := h') (t' := s1.toks) fun b o e => hx' b o (Nat.ne_of_lt (Heap.lt_size e)) e
  show wpAny _ _ (assignInOrder [fun v => bindName X.env z v, fun v => bindName X.env y v, fun v => bindName X.env x v] [u3, u2, u1] >>= fun _ => pure Flow.next) _ _ _
  refine wpAny_bind (PyProof.Rows.assignInOrder_cons (wpAny_bindName (store_ok I3 hN hk (.inl hz) rv3 (fun s2 I4 => ?_) (.inr hz))))
  refine PyProof.Rows.assignInOrder_cons (wpAny_bindName (store_ok I4 hN hj (.inl hy) rv2 (fun s3 I5 => ?_) (.inr hy)))
  refine PyProof.Rows.assignInOrder_cons (wpAny_bindName (store_ok I5 hN hi (.inl hx) rv1 (fun s4 I6 => PyProof.Rows.assignInOrder_nil (wpAny_pure ?_)) (.inr hx)))
  have es : ((σ.set k (some v3)).set j (some v2)).set i (some v1) = setsσ [i, j, k] [v1, v2, v3] σ := by
    show _ = ((σ.set i (some v1)).set j (some v2)).set k (some v3)
    rw [List.set_comm _ _ (Ne.symm hjk), List.set_comm _ _ (Ne.symm hik), List.set_comm _ _ (Ne.symm hij)]
  rw [es] at I6
  exact ⟨_, H1, I6, q2⟩

/-! ### stored at targets of any form, from the left -/
def TGZ (K : PySem.W.Frag) (g : List Sl → DEnv → Option DEnv) : TGs := fun xs σ H Q => ∃ (F : Fc) (L : List (Addr × HO)) (O : List Addr) (s : S) (sls : List Sl) (env' : DEnv), F.sa ∈ F.B ∧ F.ca ∈ F.B ∧ Rs K (F.withs L) O H σ s ∧ Pend K F O H L xs sls ∧ g sls s.1 = some env' ∧
  ∀ σ', Rs K F O H σ' (env', s.2) → Q σ' H
abbrev DZs (X : Cx) (tg : List Expr) (g : List Sl → DEnv → Option DEnv) : Prop := PGs X tg (TGZ X.K g)
def zNil : List Sl → DEnv → Option DEnv := fun sls e => match sls with
  | [] => some e
  | _ => none
def zV (g : D → DEnv → Option DEnv) (h : List Sl → DEnv → Option DEnv) : List Sl → DEnv → Option DEnv := fun sls e => match sls with
  | .v d :: r => match g d e with
    | none => none
    | some e' => h r e'
  | _ => none
def zL (i : Nat) (h : List Sl → DEnv → Option DEnv) : List Sl → DEnv → Option DEnv := fun sls e => match sls with
  | .l ds :: r => if i < e.length then h r (e.set i (some (.l ds))) else none
  | _ => none
theorem dzs_nil : DZs X [] zNil := by
  refine ⟨fun pins sh σ H vs us Q I r h => ?_⟩
  obtain ⟨F, L, O, s, sls, env', h1, h2, R, pd, hg, q⟩ := h
  cases pd with
  | nil => cases hg; exact pgs_nil.run pins sh σ H _ us Q I r ⟨rfl, q σ R⟩
  | v _ _ => cases hg
  | l _ _ _ _ => cases hg
theorem dzs_v {e : Expr} {es : List Expr} {sl : List Nat} {g : D → DEnv → Option DEnv} {gs : List Sl → DEnv → Option DEnv} (hg1 : DG X e sl g) (hg2 : DZs X es gs)
    (hs : (assignEach (e :: es) X.env).map (·.2) = assign e X.env :: (assignEach es X.env).map (·.2) := by rfl) : DZs X (e :: es) (zV g gs) := by
  refine ⟨fun pins sh σ H vs us Q I r h => ?_⟩
  obtain ⟨F, L, O, s, sls, env', h1, h2, R, pd, hg, q⟩ := h
  cases pd with
  | nil => cases hg
  | l _ _ _ _ => cases hg
  | v a pd' =>
    rename_i x d xs sls
    have hg' : (match g d s.1 with | none => none | some e' => gs sls e') = some env' := hg
    cases e1 : g d s.1 with
    | none => rw [e1] at hg'; cases hg'
    | some env1 =>
      rw [e1] at hg'
      exact (pgs_cons hg1 hg2 hs).run pins sh σ H _ us Q I r ⟨x, xs, rfl, F.withs L, O, s, d, env1, R, a, e1, fun σ1 R1 _ => ⟨F, L, O, (env1, s.2), sls, env', h1, h2, R1, pd', hg', q⟩⟩
theorem dzs_l (i : Nat) {x : Str} {px : Pos} {es : List Expr} {gs : List Sl → DEnv → Option DEnv} (hN : X.N.Nodup) (hg2 : DZs X es gs) (hi : X.N[i]? = some x := by rfl) (hx : Loc X.env.scope x := by first | exact Or.inl rfl | exact Or.inr rfl) (hf : X.fn x = true ∨ X.env.scope.names.lookup x = some .local := by first | exact .inl rfl | exact .inr rfl)
    (hs : (assignEach (.Name x px :: es) X.env).map (·.2) = assign (.Name x px) X.env :: (assignEach es X.env).map (·.2) := by rfl) : DZs X (.Name x px :: es) (zL i gs) := by
  refine ⟨fun pins sh σ H vs us Q I r h => ?_⟩
  obtain ⟨F, L, O, s, sls, env', h1, h2, R, pd, hg, q⟩ := h
  cases pd with
  | nil => cases hg
  | v _ _ => cases hg
  | l a b c pd' =>
    rename_i L p ys ds xs sls
    have hg' : (if i < s.1.length then gs sls (s.1.set i (some (.l ds))) else none) = some env' := hg
    split at hg'
    · rename_i hl
      have w := withs_sa F L
      exact (pgs_cons (pg_name hN hi hx hf) hg2 hs).run pins sh σ H _ us Q I r ⟨_, xs, rfl, F, L, O, (s.1.set i (some (.l ds)), s.2), sls, env', h1, h2, put_pend R hl b c (by rw [w.1]; exact withs_B F h1) (by rw [w.2]; exact withs_B F h2) a, pd', hg', q⟩
    · cases hg'
def cAsgT (f : M (List Sl)) (g : List Sl → DEnv → Option DEnv) : M Fl := bnd f fun sls s => match g sls s.1 with
  | none => none
  | some env' => some (.nx, (env', s.2))
theorem ds_asgT {tgs es : List Expr} {f : M (List Sl)} {g : List Sl → DEnv → Option DEnv} {pt pt2 : Pos} {kt k2} (hc : X.calm = true) (ha : DXs X es f) (hg : DZs X tgs g) (hz : es.length ≤ sizeLine := by decide) (hn : (assignEach tgs X.env).length = es.length := by rfl) (hst : (assignEach tgs X.env).findIdx? (·.1) = none := by rfl)
    (hlen : ∀ s r, f s = some r → r.1.length = es.length) (hw : swappedStores [.Tuple tgs kt pt] (.Tuple es k2 pt2) X.env = pure none := by rfl) (hs : swapsWithSole [.Tuple tgs kt pt] (.Tuple es k2 pt2) pos.line X.env = pure false := by rfl)
    (h1 : (assignEach [.Tuple tgs kt pt] X.env).map (·.2) = [assign (.Tuple tgs kt pt) X.env] := by rfl) : DS X (.Assign [.Tuple tgs kt pt] (.Tuple es k2 pt2) pos) (cAsgT f g) := by
  refine ⟨fun pins sh σ H D I h => ?_⟩
  obtain ⟨F, O, s, fl, s', R, hf, q⟩ := h
  obtain ⟨sls, s1, e1, e2⟩ := bnd_inv hf
  cases e3 : g sls s1.1 with
  | none => rw [e3] at e2; cases e2
  | some env' =>
    rw [e3] at e2
    cases e2
    refine PySem.wpAny_Assign_stores (PyProof.Rows.Tuple_ (thn (ha.run _ pins sh σ H (fun vs H1 => vs.length = es.length ∧ TGZ X.K g vs σ H1 fun σ' H2 => D.nx σ' H2) I ⟨F, O, s, sls, s1, R, e1, fun xs O' H' L R' S' pd => ⟨by rw [pd.len]; exact hlen s _ e1, F, L, O', s1, sls, env', R.saB, R.caB, R', pd, e3, fun σ' R2 => q σ' O' H' R2 S'⟩⟩) fun us sh1 ⟨vs, H1, I1, r1, hl, q1⟩ => ?_)) hs hw
    refine wpAny_newObj_type ?_ (by show us.toArray.size ≤ sizeLine; rw [List.size_toArray, ← r1.length, hl]; exact hz)
    have I2 : Inv X pins σ H1 { sh1 with heap := sh1.heap.push { cls := .type "tuple", data := .seq us.toArray } } := I1.kept (t' := sh1.toks) fun b o e => Heap.get?_push_of_some _ e
    rw [h1]
    refine PyProof.Rows.assign_Tuple_tuple (I.ok.hd hc) (IsTup.new sh1.heap _) (by rw [hn, ← hl, r1.length]; simp) hst fun h' hx' => ?_
    have I3 := I2.kept (h' := h') (t' := sh1.toks) fun b o e => hx' b o (Nat.ne_of_lt (Heap.lt_size e)) e
    exact thn (hg.run pins _ σ H1 vs us _ I3 r1 q1) fun _ s2 q => q
end
end DL
set_option Elab.async false
set_option linter.all false
set_option maxRecDepth 100000
set_option maxHeartbeats 1000000
/-! DL9: what the built-in operations do with data. -/
namespace DL
open PySem PySem.Spec L2
open PyProof.Rows hiding St
variable [Zm]

/-! ### operators -/
theorem op2_of {X : Cx} {f : Value → Value → Sem Value} {r : R2} {g : D → D → Option D} (h : OpR X f r)
    (k : ∀ (H : Hp) (O : List Addr) (x y : V) (d e res : D) (Q : VK), Dom O H → Rp1 X.K O H x d → Rp1 X.K O H y e → g d e = some res → ValPost X.K O H Q res → r x y H Q) : Op2 X f g :=
  fun pins s σ H O x y v u d e res Q I dm rx ry x1 y1 hr q => h pins s σ H x y v u Q I rx ry (k H O x y d e res Q dm x1 y1 hr q)
theorem opN_of {X : Cx} {f : Value} {r : List V → Hp → VK → Prop} {g : List D → Option D} (h : CallR X f r)
    (k : ∀ (H : Hp) (O : List Addr) (xs : List V) (ds : List D) (res : D) (Q : VK), Dom O H → Rp1A X.K O H xs ds → g ds = some res → ValPost X.K O H Q res → r xs H Q) : OpN X f g :=
  fun pins s σ H O xs us ds res Q I dm rx x1 hr q => h pins s σ H xs us Q I rx (k H O xs ds res Q dm x1 hr q)
theorem frN_of {X : Cx} {f : Value} {r : List V → Hp → VK → Prop} {g : List D → Option (List D)} (h : CallR X f r)
    (k : ∀ (H : Hp) (O : List Addr) (xs : List V) (ds : List D) (res : List D) (Q : VK), Rp1A X.K O H xs ds → g ds = some res → FrPost X.K O H Q res → r xs H Q) : FrN X f g :=
  fun pins s σ H O xs us ds res Q I rx x1 hr q => h pins s σ H xs us Q I rx (k H O xs ds res Q x1 hr q)
theorem val_at {K : PySem.W.Frag} {O : List Addr} {H : Hp} {Q : VK} {res : D} {z : V} (q : ValPost K O H Q res) (r : Rp K (fz O H) z res) : Q z H := q z H (Same.refl _) r
theorem val_tup {K : PySem.W.Frag} {O : List Addr} {H : Hp} {Q : VK} {ds : List D} {xs : List V} (dm : Dom O H) (q : ValPost K O H Q (.tuple ds)) (r : RpA K (fz O H) xs ds) : ∀ (p : Addr) (ob : Obj), ob.dict = none → H p = none → Q (.ref p) (upd H p (tupO Zm.z ob xs)) := fun p ob hd np =>
  q _ _ (same_upd np) (.tup (tupAt_fz (dm.ne np) hd) (r.mono (fz_same (same_upd np))))
theorem val_lst {K : PySem.W.Frag} {O : List Addr} {H : Hp} {Q : VK} {ds : List D} {xs : List V} (dm : Dom O H) (q : ValPost K O H Q (.list ds)) (r : RpA K (fz O H) xs ds) : ∀ p, H p = none → Q (.ref p) (upd H p (.lst xs)) := fun p np =>
  fr_val dm q p xs np r

def addI : D → D → Option D
  | .int i, .int j => some (.int (i + j))
  | _, _ => none
def addS : D → D → Option D
  | .str a, .str b => if a.length + b.length ≤ line then some (.str (a ++ b)) else none
  | _, _ => none
def addT : D → D → Option D
  | .tuple a, .tuple b => if a.length + b.length ≤ line then some (.tuple (a ++ b)) else none
  | _, _ => none
def addL : D → D → Option (List D)
  | .list a, .list b => if a.length + b.length ≤ line then some (a ++ b) else none
  | _, _ => none
def addD : D → D → Option D
  | .int i, .int j => some (.int (i + j))
  | .str a, .str b => addS (.str a) (.str b)
  | .tuple a, .tuple b => addT (.tuple a) (.tuple b)
  | .list a, .list b => (addL (.list a) (.list b)).map PyData.list
  | _, _ => none
section
variable {X : Cx}
theorem op2_addI : Op2 X (binaryOp .Add) addI := op2_of op_add fun H O x y d e res Q dm rx ry hr q => by
  unfold addI at hr
  split at hr
  · cases hr; exact ⟨_, _, rx.int_inv, ry.int_inv, val_at q (.int _)⟩
  · cases hr
theorem op2_addS : Op2 X (binaryOp .Add) addS := op2_of op_add_str fun H O x y d e res Q dm rx ry hr q => by
  unfold addS at hr
  split at hr
  · split at hr
    · rename_i z
      cases hr
      exact ⟨_, _, rx.str_inv, ry.str_inv, by rw [← line_eq]; exact z, val_at q (.str _)⟩
    · cases hr
  · cases hr
/-- t + u -/
def rCatZ (K : PySem.W.Frag) : R2 := fun x y H Q => ∃ a b xs ys, x = .ref a ∧ y = .ref b ∧ SqT K H a xs ∧ SqT K H b ys ∧ xs.length + ys.length ≤ sizeLine ∧ (xs = [] → Q (.ref b) H) ∧ (xs ≠ [] → ys = [] → Q (.ref a) H) ∧
  (xs ≠ [] → ys ≠ [] → ∀ (p : Addr) (ob : Obj), ob.dict = none → H p = none → Q (.ref p) (upd H p (tupO Zm.z ob (xs ++ ys))))
theorem op_catZ : OpR X (binaryOp .Add) (rCatZ X.K) := by
  intro pins s σ H x y v u Q I rx ry h
  obtain ⟨a, b, xs, ys, rfl, rfl, ha, hb, hz, q0, q1, q2⟩ := h
  cases rx
  cases ry
  obtain ⟨its, r1, p1, _⟩ := I.tuple ha
  obtain ⟨its2, r2, p2, _⟩ := I.tuple hb
  by_cases hx : xs = []
  · subst hx
    cases r1
    exact cat_tup0 p1 p2 ⟨.ref b, H, I, rfl, q0 rfl⟩
  · refine HT.cat_tup p1 p2 (fun z => hx (r1.nil_iff.mp z)) (fun z => ⟨.ref a, H, I, rfl, q1 hx (r2.nil_iff.mp z)⟩) (fun z => ?_) (by rw [← r1.length, ← r2.length]; exact hz)
    exact ⟨.ref s.heap.objs.size, _, I.laid (t' := s.toks) (o := tupO Zm.z _ (xs ++ ys)) (fun b ob q => Heap.get?_push_of_some _ q) (Nat.le_refl _) (tupO_ok (Heap.get?_push_size _ rfl) rfl rfl (r1.append r2) (by rw [List.length_append]; exact hz)), rfl, q2 hx (fun w => z (r2.nil_iff.mpr w)) _ _ rfl (I.hok.fresh (Nat.le_refl _))⟩
theorem op2_addT : Op2 X (binaryOp .Add) addT := op2_of op_catZ fun H O x y d e res Q dm rx ry hr q => by
  unfold addT at hr
  split at hr
  · split at hr
    · rename_i z
      cases hr
      obtain ⟨a, xs, e1, ha, ra⟩ := rx.tup_inv
      obtain ⟨b, ys, e2, hb, rb⟩ := ry.tup_inv
      subst e1 e2
      refine ⟨a, b, xs, ys, rfl, rfl, ha.le.sq, hb.le.sq, by rw [ra.len, rb.len, ← line_eq]; exact z, fun h => ?_, fun _ h => ?_, fun _ _ => val_tup dm q (ra.app rb)⟩
      · subst h
        cases ra
        exact val_at q (.tup hb rb)
      · subst h
        cases rb
        rw [List.append_nil] at q
        exact val_at q (.tup ha ra)
    · cases hr
  · cases hr
theorem fr2_addL : Fr2 X (binaryOp .Add) addL := fun pins s σ H O x y v u d e res Q I rv ru rx ry hr q => op_cat pins s σ H x y v u Q I rv ru (by
  unfold addL at hr
  split at hr
  · split at hr
    · rename_i z
      cases hr
      obtain ⟨a, xs, e1, ha, ra⟩ := rx.list_inv
      obtain ⟨b, ys, e2, hb, rb⟩ := ry.list_inv
      exact ⟨a, b, xs, ys, e1, e2, ha, hb, by rw [ra.len, rb.len, ← line_eq]; exact z, fun p np => q p _ np (ra.app rb)⟩
    · cases hr
  · cases hr)
theorem op2_add : Op2 X (binaryOp .Add) addD := fun pins s σ H O x y v u d e res Q I dm rv ru rx ry hr q => by
  unfold addD at hr
  split at hr
  · exact op2_addI pins s σ H O x y v u _ _ res Q I dm rv ru rx ry hr q
  · exact op2_addS pins s σ H O x y v u _ _ res Q I dm rv ru rx ry hr q
  · exact op2_addT pins s σ H O x y v u _ _ res Q I dm rv ru rx ry hr q
  · exact fr2_addL.op pins s σ H O x y v u _ _ res Q I dm rv ru rx ry hr q
  · cases hr
def subD : D → D → Option D
  | .int i, .int j => some (.int (i - j))
  | _, _ => none
theorem op2_sub : Op2 X (binaryOp .Sub) subD := op2_of op_sub fun H O x y d e res Q dm rx ry hr q => by
  unfold subD at hr
  split at hr
  · cases hr; exact ⟨_, _, rx.int_inv, ry.int_inv, val_at q (.int _)⟩
  · cases hr
/-- a factor below 2 ^ 62, or two of together less than a hundred million bits -/
def mulOk (i j : Int) : Prop := i.natAbs < 4611686018427387904 ∨ j.natAbs < 4611686018427387904 ∨ i.natAbs.log2 + j.natAbs.log2 < 100000000
instance (i j : Int) : Decidable (mulOk i j) := inferInstanceAs (Decidable (_ ∨ _))
theorem mulOk.ok {i j : Int} (h : mulOk i j) : IntMulOk i j := by
  rcases h with h | h | h
  · exact .of_left (intBits_le_64 (by omega) (by omega))
  · exact .of_right (intBits_le_64 (by omega) (by omega))
  have b : ∀ x : Int, Builtin.Int.intBits x ≤ x.natAbs.log2 + 1 := fun x => by
    unfold Builtin.Int.intBits
    split <;> omega
  have h1 := b i
  have h2 := b j
  have e : bitsLine = 134217728 := by decide
  unfold IntMulOk
  intro z
  rw [Bool.and_eq_true] at z
  have z2 := z.2
  unfold Builtin.Int.intTooBig at z2
  have z3 := of_decide_eq_true z2
  rw [e] at z3
  omega
def mulI : D → D → Option D
  | .int i, .int j => if mulOk i j then some (.int (i * j)) else none
  | _, _ => none
theorem op2_mulI : Op2 X (binaryOp .Mult) mulI := op2_of (opI (C := mulOk) (g := fun i j => i * j) fun _ _ _ _ _ _ _ hc q => mul_int q hc.ok) fun H O x y d e res Q dm rx ry hr q => by
  unfold mulI at hr
  split at hr
  · split at hr
    · rename_i z
      cases hr; exact ⟨_, _, rx.int_inv, ry.int_inv, z, val_at q (.int _)⟩
    · cases hr
  · cases hr
def repL : D → D → Option (List D)
  | .list ds, .int k => if k < 2 ^ 62 ∧ -(2 ^ 62) ≤ k ∧ ds.length * k.toNat ≤ line then some (List.replicate k.toNat ds).flatten else none
  | _, _ => none
theorem RpA.rep {K : PySem.W.Frag} {G : Hp} {xs : List V} {ds : List D} (r : RpA K G xs ds) : ∀ n, RpA K G (List.replicate n xs).flatten (List.replicate n ds).flatten
  | 0 => .nil
  | n + 1 => by rw [List.replicate_succ, List.replicate_succ, List.flatten_cons, List.flatten_cons]; exact r.app (RpA.rep r n)
theorem fr2_repL : Fr2 X (binaryOp .Mult) repL := fun pins s σ H O x y v u d e res Q I rv ru rx ry hr q => op_rep pins s σ H x y v u Q I rv ru (by
  unfold repL at hr
  split at hr
  · split at hr
    · rename_i z
      cases hr
      obtain ⟨a, xs, e1, ha, ra⟩ := rx.list_inv
      exact ⟨a, _, xs, e1, ry.int_inv, ha, by omega, by omega, by rw [ra.len, ← line_eq]; exact z.2.2, fun p np => q p _ np (ra.rep _)⟩
    · cases hr
  · cases hr)
def fdivD : D → D → Option D
  | .int i, .int j => if 0 < j ∧ j.natAbs.log2 < 9000 then some (.int (i / j)) else none
  | _, _ => none
theorem op2_fdiv : Op2 X (binaryOp .FloorDiv) fdivD := op2_of op_fdivW fun H O x y d e res Q dm rx ry hr q => by
  unfold fdivD at hr
  split at hr
  · split at hr
    · rename_i z
      cases hr; exact ⟨_, _, rx.int_inv, ry.int_inv, z, val_at q (.int _)⟩
    · cases hr
  · cases hr
def modD : D → D → Option D
  | .int i, .int j => if 0 < j then some (.int (i % j)) else none
  | _, _ => none
theorem op2_mod : Op2 X (binaryOp .Mod) modD := op2_of op_mod fun H O x y d e res Q dm rx ry hr q => by
  unfold modD at hr
  split at hr
  · split at hr
    · rename_i z
      cases hr; exact ⟨_, _, rx.int_inv, ry.int_inv, z, val_at q (.int _)⟩
    · cases hr
  · cases hr
def powD : D → D → Option D
  | .int i, .int j => if 0 ≤ j ∧ j ≤ 1000000 ∧ i.natAbs < 2 ^ 64 then some (.int (i ^ j.toNat)) else none
  | _, _ => none
theorem op2_pow : Op2 X (binaryOp .Pow) powD := op2_of op_pow fun H O x y d e res Q dm rx ry hr q => by
  unfold powD at hr
  split at hr
  · split at hr
    · rename_i z
      cases hr; exact ⟨_, _, rx.int_inv, ry.int_inv, z, val_at q (.int _)⟩
    · cases hr
  · cases hr
/-! order of ints -/
def cmpI (p : Int → Int → Bool) : D → D → Option D
  | .int i, .int j => some (.bool (p i j))
  | _, _ => none
theorem op2_cmpI {op : CmpOp} {p : Int → Int → Bool} (h : OpR X (compareOp op) (rI0 fun i j => .bl (p i j))) : Op2 X (compareOp op) (cmpI p) := op2_of h fun H O x y d e res Q dm rx ry hr q => by
  unfold cmpI at hr
  split at hr
  · cases hr; exact ⟨_, _, rx.int_inv, ry.int_inv, val_at q (.bl _)⟩
  · cases hr
def ltD := cmpI fun i j => decide (i < j)
def leD := cmpI fun i j => decide (i ≤ j)
def gtD := cmpI fun i j => decide (j < i)
def geD := cmpI fun i j => decide (j ≤ i)
theorem op2_lt : Op2 X (compareOp .Lt) ltD := op2_cmpI op_lt
theorem op2_le : Op2 X (compareOp .LtE) leD := op2_cmpI op_le
theorem op2_gt : Op2 X (compareOp .Gt) gtD := op2_cmpI op_gt
theorem op2_ge : Op2 X (compareOp .GtE) geD := op2_cmpI op_ge
/-! is -/
def isNoD (neg : Bool) : D → D → Option D
  | d, .none => some (.bool (match d with | .none => !neg | _ => neg))
  | _, _ => none
theorem rp1_none {K : PySem.W.Frag} {O : List Addr} {H : Hp} {x : V} {d : D} (h : Rp1 K O H x d) : decide (x = .non) = (match d with | .none => true | _ => false) := by
  cases h with
  | of h => cases h <;> rfl
  | lst _ _ => rfl
  | dK _ _ => rfl
  | dT _ _ _ => rfl
theorem op2_is : Op2 X (compareOp .Is) (isNoD false) := op2_of op_isN fun H O x y d e res Q dm rx ry hr q => by
  unfold isNoD at hr
  split at hr
  · cases hr
    refine ⟨ry.non_inv, ?_⟩
    rw [rp1_none rx]
    refine val_at q ?_
    cases d <;> exact .bl _
  · cases hr
theorem op2_isnot : Op2 X (compareOp .IsNot) (isNoD true) := op2_of op_notN fun H O x y d e res Q dm rx ry hr q => by
  unfold isNoD at hr
  split at hr
  · cases hr
    refine ⟨ry.non_inv, ?_⟩
    rw [rp1_none rx]
    refine val_at q ?_
    cases d <;> exact .bl _
  · cases hr
/-! == of data without dicts -/
mutual
theorem Rp.dp {K : PySem.W.Frag} {G H : Hp} (hs : Same G H) : ∀ {v : V} {d : D}, Rp K G v d → d.plain = true → Dp K H v d
  | _, _, .non, _ => .non
  | _, _, .bl b, _ => .bl b
  | _, _, .int i, _ => .int i
  | _, _, .str x, _ => .str x
  | _, _, .lst s r, h => .lst (SqL.of (hs _ _ s)) (RpA.dp hs r (by simpa [PyData.plain] using h))
  | _, _, .tup s r, h => .tup (s.at fun u e => hs _ u e).sq (RpA.dp hs r (by simpa [PyData.plain] using h))
  | _, _, .dK _ _, h => by simp [PyData.plain] at h
  | _, _, .dT _ _ _, h => by simp [PyData.plain] at h
theorem RpA.dp {K : PySem.W.Frag} {G H : Hp} (hs : Same G H) : ∀ {vs : List V} {ds : List D}, RpA K G vs ds → PyData.plainAll ds = true → DpAll K H vs ds
  | _, _, .nil, _ => .nil
  | _ :: _, d :: ds, .cons a b, h => by
    have h' : PyData.plain d = true ∧ PyData.plainAll ds = true := by simpa [PyData.plainAll] using h
    exact .cons (Rp.dp hs a h'.1) (RpA.dp hs b h'.2)
end
theorem Rp1.dp {K : PySem.W.Frag} {O : List Addr} {H : Hp} {v : V} {d : D} (r : Rp1 K O H v d) (h : d.plain = true) : Dp K H v d := by
  cases r with
  | of r => exact r.dp fz_le h
  | lst s r => exact .lst (SqL.of s) (r.dp fz_le (by simpa [PyData.plain] using h))
  | dK _ _ => simp [PyData.plain] at h
  | dT _ _ _ => simp [PyData.plain] at h
def shp (d : D) : Bool := d.plain && decide (d.depth ≤ 64)
theorem shp_plain {d : D} (h : shp d = true) : d.plain = true := (Bool.and_eq_true_iff.mp h).1
theorem shp_depth {d : D} (h : shp d = true) : d.depth ≤ 64 := of_decide_eq_true (Bool.and_eq_true_iff.mp h).2
theorem Rp1.dpS {K : PySem.W.Frag} {O : List Addr} {H : Hp} {v : V} {d : D} (r : Rp1 K O H v d) (h : shp d = true) : Dp K H v d := r.dp (shp_plain h)
def eqD (d e : D) : Option D := if shp d && shp e then some (.bool (PyData.eqv d e)) else none
def neD (d e : D) : Option D := if shp d && shp e then some (.bool (!PyData.eqv d e)) else none
theorem min_dep {u : Nat} {d e : D} (h : d.depth ≤ 64) (hu : u + 64 < cLine) : u + min d.depth e.depth < cLine := by
  have := Nat.min_le_left d.depth e.depth
  omega
theorem op2_eq (hu : X.A.units + 64 < cLine) : Op2 X (compareOp .Eq) eqD := by
  intro pins s σ H O x y v u d e res Q I dm rx ry x1 y1 hr q
  unfold eqD at hr
  split at hr
  · rename_i z
    cases hr
    have z := Bool.and_eq_true_iff.mp z
    obtain ⟨as, r1⟩ := Dp.reads I d x v (x1.dpS z.1) rx
    obtain ⟨bs, r2⟩ := Dp.reads I e y u (y1.dpS z.2) ry
    exact SeqAt.eq_plain r1 r2 (shp_plain z.1) (shp_plain z.2) (min_dep (shp_depth z.1) hu) ⟨.bl _, H, I, rfl, val_at q (.bl _)⟩
  · cases hr
theorem op2_ne (hu : X.A.units + 64 < cLine) : Op2 X (compareOp .NotEq) neD := by
  intro pins s σ H O x y v u d e res Q I dm rx ry x1 y1 hr q
  unfold neD at hr
  split at hr
  · rename_i z
    cases hr
    have z := Bool.and_eq_true_iff.mp z
    obtain ⟨as, r1⟩ := Dp.reads I d x v (x1.dpS z.1) rx
    obtain ⟨bs, r2⟩ := Dp.reads I e y u (y1.dpS z.2) ry
    exact SeqAt.ne_plain r1 r2 (shp_plain z.1) (shp_plain z.2) (min_dep (shp_depth z.1) hu) ⟨.bl _, H, I, rfl, val_at q (.bl _)⟩
  · cases hr
/-! in -/
def inSeqD (neg : Bool) : D → D → Option D
  | d, .list ds => if shp d && shp (.list ds) then some (.bool (if neg then !(ds.any fun z => PyData.eqv z d) else ds.any fun z => PyData.eqv z d)) else none
  | d, .tuple ds => if shp d && shp (.tuple ds) then some (.bool (if neg then !(ds.any fun z => PyData.eqv z d) else ds.any fun z => PyData.eqv z d)) else none
  | _, _ => none
def inD (neg : Bool) (d e : D) : Option D := match e with
  | .dict kds => dInD neg d (.dict kds)
  | e => inSeqD neg d e
theorem room_in {u : Nat} {xs : List D} {d : D} (hd : shp d = true) (hu : u + 65 < cLine) : u + 1 + min (PyData.depthAll xs) d.depth < cLine := by
  have := shp_depth hd
  have := Nat.min_le_right (PyData.depthAll xs) d.depth
  omega
theorem op2_inSeq (hu : X.A.units + 65 < cLine) (neg : Bool) : Op2 X (compareOp (if neg then .NotIn else .In)) (inSeqD neg) := by
  intro pins s σ H O x y v u d e res Q I dm rx ry x1 y1 hr q
  unfold inSeqD at hr
  split at hr
  · rename_i ds
    split at hr
    · rename_i z
      have z := Bool.and_eq_true_iff.mp z
      obtain ⟨as, r1⟩ := Dp.reads I d x v (x1.dpS z.1) rx
      obtain ⟨bs, r2⟩ := Dp.reads I (.list ds) y u (y1.dpS z.2) ry
      cases neg with
      | false => cases hr; exact SeqAt.in_list_data r2 r1 (by simpa [PyData.plain] using shp_plain z.2) (shp_plain z.1) (room_in z.1 hu) ⟨.bl _, H, I, rfl, val_at q (.bl _)⟩
      | true => cases hr; exact SeqAt.notIn_list_data r2 r1 (by simpa [PyData.plain] using shp_plain z.2) (shp_plain z.1) (room_in z.1 hu) ⟨.bl _, H, I, rfl, val_at q (.bl _)⟩
    · cases hr
  · rename_i ds
    split at hr
    · rename_i z
      have z := Bool.and_eq_true_iff.mp z
      obtain ⟨as, r1⟩ := Dp.reads I d x v (x1.dpS z.1) rx
      obtain ⟨bs, r2⟩ := Dp.reads I (.tuple ds) y u (y1.dpS z.2) ry
      cases neg with
      | false => cases hr; exact SeqAt.in_tuple_data r2 r1 (by simpa [PyData.plain] using shp_plain z.2) (shp_plain z.1) (room_in z.1 hu) ⟨.bl _, H, I, rfl, val_at q (.bl _)⟩
      | true => cases hr; exact SeqAt.notIn_tuple_data r2 r1 (by simpa [PyData.plain] using shp_plain z.2) (shp_plain z.1) (room_in z.1 hu) ⟨.bl _, H, I, rfl, val_at q (.bl _)⟩
    · cases hr
  · cases hr
theorem op2_inDict (hu : X.A.units + 1 < cLine) (neg : Bool) : Op2 X (compareOp (if neg then .NotIn else .In)) (dInD neg) := by
  intro pins s σ H O x y v u d e res Q I dm rx ry x1 y1 hr q
  unfold dInD at hr
  split at hr
  · rename_i kds
    cases e5 : dLook kds d with
    | none => rw [e5] at hr; cases hr
    | some r =>
      rw [e5] at hr
      obtain ⟨l, e4, hd⟩ := y1.dict_inv
      subst e4
      obtain ⟨o, hg, ho⟩ := dget_of hd x1 e5
      obtain rfl : u = Value.ref l := ry
      have hr : some (PyData.bool (if neg = true then !r.isSome else r.isSome)) = some res := hr
      rw [← opt_some ho] at hr
      cases neg with
      | false => cases hr; exact d_in hu I hg rx fun s' I' => ⟨.bl _, H, I', rfl, val_at q (.bl _)⟩
      | true => cases hr; exact d_notIn hu I hg rx fun s' I' => ⟨.bl _, H, I', rfl, val_at q (.bl _)⟩
  · cases hr
theorem op2_inB (hu : X.A.units + 65 < cLine) (neg : Bool) : Op2 X (compareOp (if neg then .NotIn else .In)) (inD neg) := by
  intro pins s σ H O x y v u d e res Q I dm rx ry x1 y1 hr q
  unfold inD at hr
  split at hr
  · exact op2_inDict (by omega) neg pins s σ H O x y v u _ _ res Q I dm rx ry x1 y1 hr q
  · exact op2_inSeq hu neg pins s σ H O x y v u _ _ res Q I dm rx ry x1 y1 hr q
theorem op2_in (hu : X.A.units + 65 < cLine) : Op2 X (compareOp .In) (inD false) := op2_inB hu false
theorem op2_notin (hu : X.A.units + 65 < cLine) : Op2 X (compareOp .NotIn) (inD true) := op2_inB hu true
/-! unary minus -/
def negD : D → Option D
  | .int i => some (.int (-i))
  | _ => none
def cNeg (f : M D) : M D := bnd f fun d => lft (negD d)
theorem de_neg {a : Expr} {f : M D} {pos : Pos} (h : DE X a f) : DE X (.UnaryOp .USub a pos) (cNeg f) := by
  refine ⟨fun pins sh σ H Q I hw => ?_⟩
  obtain ⟨F, O, s, z, s', R, hf, q⟩ := hw
  obtain ⟨d, s1, h1, h2⟩ := bnd_inv hf
  obtain ⟨z', e3, e4⟩ := lft_inv h2
  cases e4
  unfold negD at e3
  split at e3
  · cases e3
    exact (pe_un un_neg h).run pins sh σ H Q I ⟨F, O, s, _, _, R, h1, fun x H1 a b k r => ⟨_, r.int_inv, q _ H1 a b k (.int _)⟩⟩
  · cases e3
end
end DL
set_option Elab.async false
set_option linter.all false
set_option maxRecDepth 100000
set_option maxHeartbeats 1000000
/-! DL10: calls of built-in functions and types. -/
namespace DL
open PySem PySem.Spec L2
open PyProof.Rows hiding St
variable [Zm]

section
variable {X : Cx} {pos : Pos}
/-! ### the calls' rules -/
def cN (r : List D → Option D) (f : M (List Od)) : M D := bnd f fun ps => bnd (rdsM ps) fun ds => lft (r ds)
def cFrN (r : List D → Option (List D)) (f : M (List Od)) : M (List D) := bnd f fun ps => bnd (rdsM ps) fun ds => lft (r ds)
theorem cN_inv {α : Type} {r : List D → Option α} {f : M (List Od)} {s s' : S} {d : α} (h : bnd f (fun ps => bnd (rdsM ps) fun ds => lft (r ds)) s = some (d, s')) : ∃ ps ds, f s = some (ps, s') ∧ rdAll ps s'.1 = some ds ∧ r ds = some d := by
  obtain ⟨ps, s1, h1, hf⟩ := bnd_inv h
  obtain ⟨ds, s2, h2, hf⟩ := bnd_inv hf
  obtain ⟨ds2, e3, e4⟩ := lft_inv h2
  cases e4
  obtain ⟨z', e5, e6⟩ := lft_inv hf
  cases e6
  exact ⟨ps, _, h1, e3, e5⟩
theorem cN_run {fv : Value} {r : List D → Option D} {es : List Expr} {f : M (List Od)} (ho : OpN X fv r) (ha : DOs X es f) {pins : List (Addr × Obj)} {sh : Shared} {σ : St} {H : Hp} {Q : VK} (I : Inv X pins σ H sh) (h : TG X.K (relV X.K) (cN r f) σ H Q) :
    wpAny (model X.prog X.w) X.A (spliced (backTo pos (starEach es X.env))) (fun us s1 => wpAny (model X.prog X.w) X.A (call fv us) (EP X pins σ Q) X.xe s1) X.xe sh := by
  obtain ⟨F, O, s, z, s', R, hf, q⟩ := h
  obtain ⟨ps, ds, h1, h2, h3⟩ := cN_inv hf
  refine thn (goA (pos := pos) ha I R h1) fun us s1 ⟨xs, H1, I1, rv, R1, S1, K1, o1⟩ => ?_
  refine ho pins s1 σ H1 O xs us ds z Q I1 R1.dom rv (OdsOk.rd R1 o1 h2) h3 fun w H2 S2 rw => ?_
  exact q w H2 (R1.ext S2) (S1.trans (fz_same S2)) K1 rw
theorem cFrN_run {fv : Value} {r : List D → Option (List D)} {es : List Expr} {f : M (List Od)} (ho : FrN X fv r) (ha : DOs X es f) {pins : List (Addr × Obj)} {sh : Shared} {σ : St} {H : Hp} {Q : VK} (I : Inv X pins σ H sh) (h : TGF X.K (cFrN r f) σ H Q) :
    wpAny (model X.prog X.w) X.A (spliced (backTo pos (starEach es X.env))) (fun us s1 => wpAny (model X.prog X.w) X.A (call fv us) (EP X pins σ Q) X.xe s1) X.xe sh := by
  obtain ⟨F, O, s, z, s', R, hf, q⟩ := h
  obtain ⟨ps, ds, h1, h2, h3⟩ := cN_inv hf
  refine thn (goA (pos := pos) ha I R h1) fun us s1 ⟨xs, H1, I1, rv, R1, S1, K1, o1⟩ => ?_
  exact ho pins s1 σ H1 O xs us ds z Q I1 rv (OdsOk.rd R1 o1 h2) h3 (fr_own R1 S1 K1 q)
variable {x : Str} {p : Pos} {e : Expr} {es : List Expr} {f : M (List Od)} {id T : String}
theorem de_callB {r : List D → Option D} (ho : OpN X (.builtin id) r) (hg : Gl X x) (hm : X.mg x = none) (hv : bootBuiltins x = some (.builtin id)) (ha : DOs X (e :: es) f) (hn : x ≠ "__name__" := by decide) (hdb : (x == ("__debug__" : Str)) = false := by decide)
    (he : starEach (e :: es) X.env = (false, eval e X.env) :: starEach es X.env := by rfl) (hpl : (backTo pos (starEach es X.env)).any (·.1) = false := by rfl) : DE X (.Call (.Name x p) (e :: es) [] pos) (cN r f) :=
  ⟨fun pins s σ H Q I h => wpAny_Call_Name_kw (ld_blt I hg hm hv (PyProof.Rows.callWith_builtin1 (cN_run ho ha I h) he hpl) hn hdb)⟩
theorem de_callM {r : List D → Option D} (ho : OpN X (.builtin id) r) (hg : Gl X x) (hm : X.mg x = some (.builtin id)) (ha : DOs X (e :: es) f) (hdb : (x == ("__debug__" : Str)) = false := by decide)
    (he : starEach (e :: es) X.env = (false, eval e X.env) :: starEach es X.env := by rfl) (hpl : (backTo pos (starEach es X.env)).any (·.1) = false := by rfl) : DE X (.Call (.Name x p) (e :: es) [] pos) (cN r f) :=
  ⟨fun pins s σ H Q I h => wpAny_Call_Name_kw (ld_glob I hg hm (PyProof.Rows.callWith_builtin1 (cN_run ho ha I h) he hpl) hdb)⟩
theorem de_callT {r : List D → Option D} (ho : OpN X (.type T) r) (hg : Gl X x) (hm : X.mg x = none) (hv : bootBuiltins x = some (.type T)) (ha : DOs X (e :: es) f) (hn : x ≠ "__name__" := by decide) (hdb : (x == ("__debug__" : Str)) = false := by decide)
    (he : starEach (e :: es) X.env = (false, eval e X.env) :: starEach es X.env := by rfl) (hpl : (backTo pos (starEach es X.env)).any (·.1) = false := by rfl) : DE X (.Call (.Name x p) (e :: es) [] pos) (cN r f) :=
  ⟨fun pins s σ H Q I h => wpAny_Call_Name_kw (ld_blt I hg hm hv (PyProof.Rows.callWith_type1 (cN_run ho ha I h) he hpl) hn hdb)⟩
theorem df_callB {r : List D → Option (List D)} (ho : FrN X (.builtin id) r) (hg : Gl X x) (hm : X.mg x = none) (hv : bootBuiltins x = some (.builtin id)) (ha : DOs X (e :: es) f) (hn : x ≠ "__name__" := by decide) (hdb : (x == ("__debug__" : Str)) = false := by decide)
    (he : starEach (e :: es) X.env = (false, eval e X.env) :: starEach es X.env := by rfl) (hpl : (backTo pos (starEach es X.env)).any (·.1) = false := by rfl) : DF X (.Call (.Name x p) (e :: es) [] pos) (cFrN r f) :=
  ⟨fun pins s σ H Q I h => wpAny_Call_Name_kw (ld_blt I hg hm hv (PyProof.Rows.callWith_builtin1 (cFrN_run ho ha I h) he hpl) hn hdb)⟩
theorem df_callT {r : List D → Option (List D)} (ho : FrN X (.type T) r) (hg : Gl X x) (hm : X.mg x = none) (hv : bootBuiltins x = some (.type T)) (ha : DOs X (e :: es) f) (hn : x ≠ "__name__" := by decide) (hdb : (x == ("__debug__" : Str)) = false := by decide)
    (he : starEach (e :: es) X.env = (false, eval e X.env) :: starEach es X.env := by rfl) (hpl : (backTo pos (starEach es X.env)).any (·.1) = false := by rfl) : DF X (.Call (.Name x p) (e :: es) [] pos) (cFrN r f) :=
  ⟨fun pins s σ H Q I h => wpAny_Call_Name_kw (ld_blt I hg hm hv (PyProof.Rows.callWith_type1 (cFrN_run ho ha I h) he hpl) hn hdb)⟩
end

/-! ### one argument, two -/
section
variable {K : PySem.W.Frag} {O : List Addr} {H : Hp}
theorem Rp1A.one {xs : List V} {d : D} (h : Rp1A K O H xs [d]) : ∃ x, xs = [x] ∧ Rp1 K O H x d := by
  cases h with
  | cons a b => cases b; exact ⟨_, rfl, a⟩
theorem Rp1A.two {xs : List V} {d e : D} (h : Rp1A K O H xs [d, e]) : ∃ x y, xs = [x, y] ∧ Rp1 K O H x d ∧ Rp1 K O H y e := by
  cases h with
  | cons a b => cases b with
    | cons b c => cases c; exact ⟨_, _, rfl, a, b⟩
def intsD : List D → Option (List Int)
  | [] => some []
  | .int i :: ds => match intsD ds with
    | some ns => some (i :: ns)
    | none => none
  | _ => none
theorem intsD_of : ∀ ns : List Int, intsD (ns.map PyData.int) = some ns
  | [] => rfl
  | n :: ns => by rw [List.map_cons, intsD, intsD_of ns]
theorem intsD_inv : ∀ {ds : List D} {ns : List Int}, intsD ds = some ns → ds = ns.map PyData.int
  | [], _, h => by cases h; rfl
  | .int i :: ds, ns, h => by
    unfold intsD at h
    cases e : intsD ds with
    | none => rw [e] at h; cases h
    | some ms => rw [e] at h; cases h; rw [intsD_inv e]; rfl
  | .none :: _, _, h => by cases h
  | .bool _ :: _, _, h => by cases h
  | .str _ :: _, _, h => by cases h
  | .list _ :: _, _, h => by cases h
  | .tuple _ :: _, _, h => by cases h
  | .dict _ :: _, _, h => by cases h
def boolsD : List D → Option (List Bool)
  | [] => some []
  | .bool i :: ds => match boolsD ds with
    | some ns => some (i :: ns)
    | none => none
  | _ => none
theorem boolsD_of : ∀ ns : List Bool, boolsD (ns.map PyData.bool) = some ns
  | [] => rfl
  | n :: ns => by rw [List.map_cons, boolsD, boolsD_of ns]
theorem boolsD_inv : ∀ {ds : List D} {ns : List Bool}, boolsD ds = some ns → ds = ns.map PyData.bool
  | [], _, h => by cases h; rfl
  | .bool i :: ds, ns, h => by
    unfold boolsD at h
    cases e : boolsD ds with
    | none => rw [e] at h; cases h
    | some ms => rw [e] at h; cases h; rw [boolsD_inv e]; rfl
  | .none :: _, _, h => by cases h
  | .int _ :: _, _, h => by cases h
  | .str _ :: _, _, h => by cases h
  | .list _ :: _, _, h => by cases h
  | .tuple _ :: _, _, h => by cases h
  | .dict _ :: _, _, h => by cases h
end
section
variable {X : Cx}
def lenN : List D → Option D
  | [.list ds] => some (.int ds.length)
  | [.tuple ds] => some (.int ds.length)
  | [.str s] => if s.length ≤ line then some (.int s.length) else none
  | [.dict kds] => some (.int kds.length)
  | _ => none
theorem opN_len : OpN X (.builtin "len") lenN := fun pins s σ H O xs us ds res Q I dm rx x1 hr q => by
  unfold lenN at hr
  split at hr
  · cases hr
    obtain ⟨x, rfl, r⟩ := x1.one
    obtain ⟨a, ys, rfl, h, r⟩ := r.list_inv
    exact call_len pins s σ H _ us Q I rx ⟨_, ys.length, rfl, .inl ⟨ys, SqL.of h, rfl⟩, by rw [r.len]; exact val_at q (.int _)⟩
  · cases hr
    obtain ⟨x, rfl, r⟩ := x1.one
    obtain ⟨a, ys, rfl, h, r⟩ := r.tup_inv
    exact call_len pins s σ H _ us Q I rx ⟨_, ys.length, rfl, .inr ⟨ys, h.le.sq, rfl⟩, by rw [r.len]; exact val_at q (.int _)⟩
  · split at hr
    · rename_i z
      cases hr
      obtain ⟨x, rfl, r⟩ := x1.one
      obtain rfl := r.str_inv
      exact call_len pins s σ H _ us Q I rx ⟨_, _, rfl, ⟨by rw [← line_eq]; exact z, rfl⟩, val_at q (.int _)⟩
    · cases hr
  · cases hr
    obtain ⟨x, rfl, r⟩ := x1.one
    obtain ⟨a, rfl, h⟩ := r.dict_inv
    cases h with
    | k hd ra =>
      rename_i kvs ds
      refine call_lenD pins s σ H _ us Q I rx ⟨_, kvs, rfl, hd, ?_⟩
      have hl := ra.len
      rw [List.length_map] at hl
      refine val_at q ?_
      rw [List.length_zip, List.length_map, ← hl, Nat.min_self]
      exact .int _
    | t hd hn ra =>
      rename_i kvs ds
      refine call_len_dT pins s σ H _ us Q I rx ⟨_, kvs, rfl, hd, ?_⟩
      have hl := ra.len
      rw [List.length_map] at hl
      refine val_at q ?_
      rw [List.length_zip, List.length_map, ← hl, Nat.min_self]
      exact .int _
  · cases hr
def absN : List D → Option D
  | [.int i] => some (.int (if i < 0 then -i else i))
  | _ => none
theorem opN_abs : OpN X (.builtin "abs") absN := opN_of call_abs fun H O xs ds res Q dm x1 hr q => by
  unfold absN at hr
  split at hr
  · cases hr
    obtain ⟨x, rfl, r⟩ := x1.one
    obtain rfl := r.int_inv
    exact ⟨_, rfl, val_at q (.int _)⟩
  · cases hr
def intN : List D → Option D
  | [.int i] => some (.int i)
  | [.bool b] => some (.int (if b then 1 else 0))
  | _ => none
theorem opN_int : OpN X (.type "int") intN := opN_of call_int1 fun H O xs ds res Q dm x1 hr q => by
  unfold intN at hr
  split at hr
  · cases hr
    obtain ⟨x, rfl, r⟩ := x1.one
    obtain rfl := r.int_inv
    exact .inl ⟨_, rfl, val_at q (.int _)⟩
  · cases hr
    obtain ⟨x, rfl, r⟩ := x1.one
    obtain rfl := r.bl_inv
    exact .inr ⟨_, rfl, val_at q (.int _)⟩
  · cases hr
def max2N : List D → Option D
  | [.int i, .int j] => some (.int (if j > i then j else i))
  | _ => none
def min2N : List D → Option D
  | [.int i, .int j] => some (.int (if j < i then j else i))
  | _ => none
theorem opN_max2 (hc : X.calm = true) : OpN X (.builtin "max") max2N := opN_of (call_max2 hc) fun H O xs ds res Q dm x1 hr q => by
  unfold max2N at hr
  split at hr
  · cases hr
    obtain ⟨x, y, rfl, r, r'⟩ := x1.two
    obtain rfl := r.int_inv
    obtain rfl := r'.int_inv
    exact ⟨_, _, rfl, val_at q (.int _)⟩
  · cases hr
theorem opN_min2 (hc : X.calm = true) : OpN X (.builtin "min") min2N := opN_of (call_min2 hc) fun H O xs ds res Q dm x1 hr q => by
  unfold min2N at hr
  split at hr
  · cases hr
    obtain ⟨x, y, rfl, r, r'⟩ := x1.two
    obtain rfl := r.int_inv
    obtain rfl := r'.int_inv
    exact ⟨_, _, rfl, val_at q (.int _)⟩
  · cases hr
def sumN : List D → Option D
  | [.list ds] => (intsD ds).map fun ns => .int ns.sum
  | _ => none
theorem opN_sum (hc : X.calm = true) : OpN X (.builtin "sum") sumN := opN_of (cr_sum hc) fun H O xs ds res Q dm x1 hr q => by
  unfold sumN at hr
  split at hr
  · rename_i l
    cases e : intsD l with
    | none => rw [e] at hr; cases hr
    | some ns =>
      rw [e] at hr
      cases hr
      obtain rfl := intsD_inv e
      obtain ⟨x, rfl, r⟩ := x1.one
      obtain ⟨a, ys, rfl, h, r⟩ := r.list_inv
      rw [r.ints] at h
      exact ⟨a, ns, rfl, SqL.of h, val_at q (.int _)⟩
  · cases hr
/-- the greatest of a list, the least -/
def maxI : Int → List Int → Int
  | m, [] => m
  | m, n :: ns => maxI (if m < n then n else m) ns
def minI : Int → List Int → Int
  | m, [] => m
  | m, n :: ns => minI (if n < m then n else m) ns
theorem maxI_spec : ∀ (ns : List Int) (m : Int), maxI m ns ∈ m :: ns ∧ ∀ y ∈ m :: ns, y ≤ maxI m ns
  | [], m => by simp [maxI]
  | n :: ns, m => by
    obtain ⟨h1, h2⟩ := maxI_spec ns (if m < n then n else m)
    have e : maxI m (n :: ns) = maxI (if m < n then n else m) ns := rfl
    rw [e]
    generalize hz : maxI (if m < n then n else m) ns = z at h1 h2 ⊢
    refine ⟨?_, fun y hy => ?_⟩
    · rcases List.mem_cons.mp h1 with h | h
      · rw [h]; split <;> simp
      · simp [h]
    · have h3 := h2 _ List.mem_cons_self
      rcases List.mem_cons.mp hy with h | h
      · subst h; split at h3 <;> omega
      · rcases List.mem_cons.mp h with h | h
        · subst h; split at h3 <;> omega
        · exact h2 y (List.mem_cons_of_mem _ h)
theorem minI_spec : ∀ (ns : List Int) (m : Int), minI m ns ∈ m :: ns ∧ ∀ y ∈ m :: ns, minI m ns ≤ y
  | [], m => by simp [minI]
  | n :: ns, m => by
    obtain ⟨h1, h2⟩ := minI_spec ns (if n < m then n else m)
    have e : minI m (n :: ns) = minI (if n < m then n else m) ns := rfl
    rw [e]
    generalize hz : minI (if n < m then n else m) ns = z at h1 h2 ⊢
    refine ⟨?_, fun y hy => ?_⟩
    · rcases List.mem_cons.mp h1 with h | h
      · rw [h]; split <;> simp
      · simp [h]
    · have h3 := h2 _ List.mem_cons_self
      rcases List.mem_cons.mp hy with h | h
      · subst h; split at h3 <;> omega
      · rcases List.mem_cons.mp h with h | h
        · subst h; split at h3 <;> omega
        · exact h2 y (List.mem_cons_of_mem _ h)
def max1N : List D → Option D
  | [.list ds] => match intsD ds with
    | some (n :: ns) => some (.int (maxI n ns))
    | _ => none
  | _ => none
def min1N : List D → Option D
  | [.list ds] => match intsD ds with
    | some (n :: ns) => some (.int (minI n ns))
    | _ => none
  | _ => none
theorem opN_max1 (hc : X.calm = true) : OpN X (.builtin "max") max1N := opN_of (cr_max hc) fun H O xs ds res Q dm x1 hr q => by
  unfold max1N at hr
  split at hr
  · rename_i l
    split at hr
    · rename_i n ns e
      cases hr
      obtain rfl := intsD_inv e
      obtain ⟨x, rfl, r⟩ := x1.one
      obtain ⟨a, ys, rfl, h, r⟩ := r.list_inv
      rw [r.ints] at h
      refine ⟨a, n :: ns, rfl, SqL.of h, by simp, fun m hm hy => ?_⟩
      obtain ⟨h1, h2⟩ := maxI_spec ns n
      have := hy _ h1
      have := h2 _ hm
      have e : m = maxI n ns := by omega
      rw [e]
      exact val_at q (.int _)
    · cases hr
  · cases hr
theorem opN_min1 (hc : X.calm = true) : OpN X (.builtin "min") min1N := opN_of (cr_min hc) fun H O xs ds res Q dm x1 hr q => by
  unfold min1N at hr
  split at hr
  · rename_i l
    split at hr
    · rename_i n ns e
      cases hr
      obtain rfl := intsD_inv e
      obtain ⟨x, rfl, r⟩ := x1.one
      obtain ⟨a, ys, rfl, h, r⟩ := r.list_inv
      rw [r.ints] at h
      refine ⟨a, n :: ns, rfl, SqL.of h, by simp, fun m hm hy => ?_⟩
      obtain ⟨h1, h2⟩ := minI_spec ns n
      have := hy _ h1
      have := h2 _ hm
      have e : m = minI n ns := by omega
      rw [e]
      exact val_at q (.int _)
    · cases hr
  · cases hr
def listN : List D → Option (List D)
  | [d] => seqOf d
  | _ => none
theorem frN_list : FrN X (.type "list") listN := frN_of call_list_of fun H O xs ds res Q x1 hr q => by
  unfold listN at hr
  split at hr
  · obtain ⟨x, rfl, r⟩ := x1.one
    unfold seqOf at hr
    split at hr
    · cases hr
      obtain ⟨a, ys, rfl, h, r⟩ := r.list_inv
      exact ⟨a, ys, rfl, .inl (SqL.of h), fun p np => q p _ np r⟩
    · cases hr
      obtain ⟨a, ys, rfl, h, r⟩ := r.tup_inv
      exact ⟨a, ys, rfl, .inr (h.le.sq), fun p np => q p _ np r⟩
    · cases hr
  · cases hr
def tupN : List D → Option D
  | [d] => (seqOf d).map PyData.tuple
  | _ => none
theorem call_tupZ : CallR X (.type "tuple") (fun xs H Q => ∃ p ys, xs = [.ref p] ∧ ((SqL X.K H p ys ∧ ∀ (l : Addr) (ob : Obj), ob.dict = none → H l = none → Q (.ref l) (upd H l (tupO Zm.z ob ys))) ∨ (SqT X.K H p ys ∧ Q (.ref p) H))) := by
  intro pins s σ H xs us Q I r h
  obtain ⟨p, ys, rfl, h⟩ := h
  obtain ⟨u, rfl, rx⟩ := vals1 r
  cases rx
  rcases h with ⟨hq, q⟩ | ⟨hq, q⟩
  · obtain ⟨its, r', pl, hz⟩ := I.list hq
    have hlen := r'.length
    refine call_tuple_list pl.isList (fun h' kp => ?_) (by simp only [List.size_toArray] <;> omega)
    have I1 : Inv X pins σ H { s with heap := h' } := I.kept (t' := s.toks) kp
    have I2 := I1.laid (t' := s.toks) (h' := h'.push { cls := .type "tuple", data := .seq its.toArray }) (a := h'.objs.size) (o := tupO Zm.z { cls := .type "tuple", data := .seq its.toArray } ys) (fun b o e => Heap.get?_push_of_some _ e) (Nat.le_refl _) (tupO_ok (Heap.get?_push_size _ rfl) rfl rfl r' hz)
    exact ⟨.ref h'.objs.size, _, I2, rfl, q _ _ rfl (I1.hok.fresh (Nat.le_refl _))⟩
  · obtain ⟨its, r', pl, hz⟩ := I.tuple hq
    exact call_tuple_same pl ⟨.ref p, H, I, rfl, q⟩
theorem opN_tup : OpN X (.type "tuple") tupN := opN_of call_tupZ fun H O xs ds res Q dm x1 hr q => by
  unfold tupN at hr
  split at hr
  · obtain ⟨x, rfl, r⟩ := x1.one
    unfold seqOf at hr
    split at hr
    · cases hr
      obtain ⟨a, ys, rfl, h, r⟩ := r.list_inv
      exact ⟨a, ys, rfl, .inl ⟨SqL.of h, val_tup dm q r⟩⟩
    · cases hr
      obtain ⟨a, ys, rfl, h, r⟩ := r.tup_inv
      exact ⟨a, ys, rfl, .inr ⟨h.le.sq, val_at q (.tup h r)⟩⟩
    · cases hr
  · cases hr
def allN : List D → Option D
  | [.list ds] => (boolsD ds).map fun bs => .bool (bs.all id)
  | _ => none
def anyN : List D → Option D
  | [.list ds] => (boolsD ds).map fun bs => .bool (bs.any id)
  | _ => none
theorem opN_all (hc : X.calm = true) : OpN X (.builtin "all") allN := opN_of (cr_all hc) fun H O xs ds res Q dm x1 hr q => by
  unfold allN at hr
  split at hr
  · rename_i l
    cases e : boolsD l with
    | none => rw [e] at hr; cases hr
    | some ns =>
      rw [e] at hr
      cases hr
      obtain rfl := boolsD_inv e
      obtain ⟨x, rfl, r⟩ := x1.one
      obtain ⟨a, ys, rfl, h, r⟩ := r.list_inv
      rw [r.bools] at h
      exact ⟨a, ns, rfl, SqL.of h, val_at q (.bl _)⟩
  · cases hr
theorem opN_any (hc : X.calm = true) : OpN X (.builtin "any") anyN := opN_of (cr_any hc) fun H O xs ds res Q dm x1 hr q => by
  unfold anyN at hr
  split at hr
  · rename_i l
    cases e : boolsD l with
    | none => rw [e] at hr; cases hr
    | some ns =>
      rw [e] at hr
      cases hr
      obtain rfl := boolsD_inv e
      obtain ⟨x, rfl, r⟩ := x1.one
      obtain ⟨a, ys, rfl, h, r⟩ := r.list_inv
      rw [r.bools] at h
      exact ⟨a, ns, rfl, SqL.of h, val_at q (.bl _)⟩
  · cases hr
def gcdN : List D → Option D
  | [.int i, .int j] => some (.int ((Nat.gcd i.natAbs j.natAbs : Nat) : Int))
  | _ => none
theorem opN_gcd : OpN X (.builtin "math.gcd") gcdN := opN_of cr_gcd fun H O xs ds res Q dm x1 hr q => by
  unfold gcdN at hr
  split at hr
  · cases hr
    obtain ⟨x, y, rfl, r, r'⟩ := x1.two
    obtain rfl := r.int_inv
    obtain rfl := r'.int_inv
    exact ⟨_, _, rfl, val_at q (.int _)⟩
  · cases hr
/-! sorted of ints -/
def insI (a : Int) : List Int → List Int
  | [] => [a]
  | b :: bs => if a ≤ b then a :: b :: bs else b :: insI a bs
def sortI : List Int → List Int
  | [] => []
  | a :: as => insI a (sortI as)
theorem insI_perm (a : Int) : ∀ bs : List Int, (insI a bs).Perm (a :: bs)
  | [] => .refl _
  | b :: bs => by
    unfold insI
    split
    · exact .refl _
    · exact ((insI_perm a bs).cons b).trans (.swap a b bs)
theorem sortI_perm : ∀ as : List Int, (sortI as).Perm as
  | [] => .refl _
  | a :: as => (insI_perm a _).trans ((sortI_perm as).cons a)
theorem insI_ord (a : Int) : ∀ {bs : List Int}, bs.Pairwise (· ≤ ·) → (insI a bs).Pairwise (· ≤ ·)
  | [], _ => by simp [insI]
  | b :: bs, h => by
    unfold insI
    split
    · rename_i hab
      rw [List.pairwise_cons]
      refine ⟨fun y hy => ?_, h⟩
      rcases List.mem_cons.mp hy with z | z
      · rw [z]; exact hab
      · exact Int.le_trans hab ((List.pairwise_cons.mp h).1 y z)
    · rename_i hab
      rw [List.pairwise_cons]
      refine ⟨fun y hy => ?_, insI_ord a (List.pairwise_cons.mp h).2⟩
      rcases List.mem_cons.mp ((insI_perm a bs).mem_iff.mp hy) with z | z
      · rw [z]; omega
      · exact (List.pairwise_cons.mp h).1 y z
theorem sortI_ord : ∀ as : List Int, (sortI as).Pairwise (· ≤ ·)
  | [] => .nil
  | a :: as => insI_ord a (sortI_ord as)
theorem ord_uniq : ∀ {as bs : List Int}, as.Perm bs → as.Pairwise (· ≤ ·) → bs.Pairwise (· ≤ ·) → as = bs
  | [], bs, p, _, _ => by
    have := p.length_eq
    cases bs with
    | nil => rfl
    | cons _ _ => simp at this
  | a :: as, [], p, _, _ => by simpa using p.length_eq
  | a :: as, b :: bs, p, h1, h2 => by
    have e : a = b := by
      have m1 : b ∈ a :: as := p.symm.mem_iff.mp List.mem_cons_self
      have m2 : a ∈ b :: bs := p.mem_iff.mp List.mem_cons_self
      have l1 : a ≤ b := by
        rcases List.mem_cons.mp m1 with z | z
        · omega
        · exact (List.pairwise_cons.mp h1).1 b z
      have l2 : b ≤ a := by
        rcases List.mem_cons.mp m2 with z | z
        · omega
        · exact (List.pairwise_cons.mp h2).1 a z
      omega
    subst e
    rw [ord_uniq ((List.perm_cons a).mp p) (List.pairwise_cons.mp h1).2 (List.pairwise_cons.mp h2).2]
def sortedN : List D → Option (List D)
  | [.list ds] => (intsD ds).map fun ns => (sortI ns).map PyData.int
  | [.tuple ds] => (intsD ds).map fun ns => (sortI ns).map PyData.int
  | _ => none
theorem frN_sortedL : FrN X (.builtin "sorted") (fun ds => match ds with | [.list ds] => (intsD ds).map fun ns => (sortI ns).map PyData.int | _ => none) := frN_of cr_sortedI fun H O xs ds res Q x1 hr q => by
  split at hr
  · rename_i l
    cases e : intsD l with
    | none => rw [e] at hr; cases hr
    | some ns =>
      rw [e] at hr
      cases hr
      obtain rfl := intsD_inv e
      obtain ⟨x, rfl, r⟩ := x1.one
      obtain ⟨a, ys, rfl, h, r⟩ := r.list_inv
      rw [r.ints] at h
      refine ⟨a, ns, rfl, SqL.of h, fun ns' p h1 h2 np => ?_⟩
      rw [ord_uniq (h1.trans (sortI_perm ns).symm) h2 (sortI_ord ns)]
      exact q p _ np (RpA.of_ints _)
  · cases hr
end
end DL
set_option Elab.async false
set_option linter.all false
set_option maxRecDepth 100000
set_option maxHeartbeats 2000000
/-! DL11: sorted of a tuple, repr, isinstance. -/
namespace SrtO
open PySem PyProof.Rows Srt
section
variable {prog : Program} {w : World} {A : Around} {E : Value → Shared → Prop} {s : Shared}
theorem collect_tupl {l : Addr} {vs : List Value} {Q : List Value → Shared → Prop} (hl : s.heap.IsTuple l vs.toArray)
    (h : Q vs { s with heap := (s.heap.push (seqObj "list" #[] 0)).update s.heap.objs.size (Obj.mapSeq (· ++ vs.toArray)) }) (hsz : vs.length ≤ sizeLine) :
    wpAny (model prog w) A (collect (.ref l)) Q E s := by
  obtain ⟨o, ho, hc, n, hd⟩ := id hl
  unfold collect
  refine wpAny_bind (wpAny_runValue (codeAny_builtin entry_proto_collect' ?_))
  show wpAny _ _ (do again (.builtin "list.__iadd__" ⟨[← newList [], .ref l], []⟩)) _ _ s
  refine wpAny_bind (wpAny_newList (wpAny_pure ⟨Code.quiet_builtin _ (by decide +kernel), codeAny_builtin entry_list_iadd' ?_⟩))
  show wpAny _ _ (Builtin.List.listExtendWith (.ref s.heap.objs.size) (.ref l) (.ref s.heap.objs.size)) _ _ { s with heap := s.heap.push (seqObj "list" #[] 0) }
  unfold Builtin.List.listExtendWith
  have ho' : (s.heap.push (seqObj "list" #[] 0)).get? l = some o := Heap.get?_push_of_some _ ho
  refine wpAny_bind (wpAny_typeOf (T := "tuple") ⟨o, ho', hc⟩ ?_)
  have ht : (Value.type "tuple" == Value.type "tuple") = true := by rfl
  rw [if_pos (by rw [ht]; simp)]
  refine wpAny_bind (listItems_at ho' hd ?_)
  refine wpAny_bind (listItems_at (xs := #[]) (n := 0) (Heap.get?_push_size _ rfl) rfl ?_)
  rw [if_neg (by simp)]
  refine wpAny_bind (listUpdate_at (xs := #[]) (n := 0) (Heap.get?_push_size _ rfl) rfl ?_ (Nat.zero_le _) (by show (#[] ++ vs.toArray).size ≤ sizeLine + 1; simp only [Array.size_append, List.size_toArray, List.length_nil]; omega))
  refine wpAny_pure ?_
  show wpAny (model prog w) A (do
      let o ← load s.heap.objs.size
      match o.data with
      | .seq xs _ => pure xs.toList
      | _ => unsupported "internal:collect") Q E { s with heap := (s.heap.push (seqObj "list" #[] 0)).update s.heap.objs.size (Obj.mapSeq (· ++ vs.toArray)) }
  refine wpAny_bind (wpAny_load (get?_update_seq (Heap.get?_push_size _ rfl) _) ?_)
  show wpAny _ _ (pure ((#[] : Array Value) ++ vs.toArray).toList) Q E _
  rw [show ((#[] : Array Value) ++ vs.toArray).toList = vs by simp]
  exact wpAny_pure h
theorem sorted_tupl {l : Addr} {vs : List Value} {ltv : Value → Value → Bool} {Q : Value → Shared → Prop} (O : Swo ltv) (hl : s.heap.IsTuple l vs.toArray) (hz : vs.length ≤ sizeLine)
    (hS : 2 ≤ vs.length → ∀ (h₁ : Heap) (a : Addr), h₁.get? a = some (seqObj "list" vs.toArray 0) → (∀ b o, s.heap.get? b = some o → b ≠ a ∧ h₁.get? b = some o) → SortableO prog w A.in1.in1 { s with heap := h₁ } a vs ltv)
    (h : ∀ out : List Value, Srtd ltv out → Stb ltv out vs → Q (.ref (s.heap.objs.size + 1)) { s with heap := sortedAll s.heap vs out.toArray }) :
    wpAny (model prog w) A (call (.builtin "sorted") [.ref l]) Q E s := by
  refine Calls.call_function_entry kind_sorted plain_sorted entry_sorted (args_sorted1 _) ?_
  unfold Builtin.«sorted»
  refine wpAny_bind (m := checkCount "sorted" 1 1 _) (wpAny_pure ?_)
  refine wpAny_bind (collect_tupl hl ?_ hz)
  refine wpAny_bind (wpAny_newList ?_ hz)
  have hsz : ((s.heap.push (seqObj "list" #[] 0)).update s.heap.objs.size (Obj.mapSeq (· ++ vs.toArray))).objs.size = s.heap.objs.size + 1 := by
    rw [Heap.size_update, size_push']
  have hoL : (((s.heap.push (seqObj "list" #[] 0)).update s.heap.objs.size (Obj.mapSeq (· ++ vs.toArray))).push (seqObj "list" vs.toArray 0)).get? (s.heap.objs.size + 1) = some (seqObj "list" vs.toArray 0) := by
    rw [← hsz]; exact Heap.get?_push_size _ rfl
  have keep : ∀ b o, s.heap.get? b = some o → b ≠ s.heap.objs.size + 1 ∧ (((s.heap.push (seqObj "list" #[] 0)).update s.heap.objs.size (Obj.mapSeq (· ++ vs.toArray))).push (seqObj "list" vs.toArray 0)).get? b = some o := fun b o q => by
    have hlt : b < s.heap.objs.size := Heap.lt_size q
    refine ⟨Nat.ne_of_lt (Nat.lt_succ_of_lt hlt), Heap.get?_push_of_some _ ?_⟩
    rw [Heap.get?_update_ne _ _ _ _ (Nat.ne_of_lt hlt)]
    exact Heap.get?_push_of_some _ q
  show wpAny _ _ _ _ _ { s with heap := ((s.heap.push (seqObj "list" #[] 0)).update s.heap.objs.size (Obj.mapSeq (· ++ vs.toArray))).push (seqObj "list" vs.toArray 0) }
  rw [hsz]
  refine wpAny_bind (wpAny_holding (wpAny_call_entry slot_list_sort ⟨_, hoL, rfl⟩ entry_list_sort (list_sort_ord O hoL hz (fun h2 => hS h2 _ _ hoL keep) fun out hs hb => ⟨_, rfl, ?_⟩) (args_list_sort _)))
  exact wpAny_pure ⟨_, rfl, h out hs hb⟩
end
end SrtO
namespace DL
open PySem PySem.Spec L2
open PyProof.Rows hiding St
variable [Zm]
section
variable {X : Cx} {pos : Pos}
theorem cr_sortedTI : CallR X (.builtin "sorted") (fun vs H Q => ∃ (a : Addr) (ns : List Int), vs = [V.ref a] ∧ SqT X.K H a (ns.map V.int) ∧
    ∀ (ns' : List Int) (p : Addr), ns'.Perm ns → ns'.Pairwise (· ≤ ·) → H p = none → Q (.ref p) (upd H p (.lst (ns'.map V.int)))) := by
  intro pins s σ H vs us Q I r h
  obtain ⟨a, ns, rfl, hs, q⟩ := h
  obtain ⟨its, rv, hl, hz⟩ := I.tuple hs
  rw [Vals.ref1 r]
  have hi := rv.ints
  refine SrtO.sorted_tupl SrtO.swo_int hl (by rw [← rv.length]; exact hz) (fun h2 h₁ a' _ _ => SrtO.ints_sortable hi h2) fun out h1 h2 => ?_
  obtain ⟨k1, k2, k3⟩ := SrtO.ints_out hi h1 h2
  obtain ⟨ep, he'⟩ := PyProof.Rows.sortedAll_at s.heap its out.toArray
  have hlen : ((out.map SrtO.iv).map V.int).length ≤ sizeLine := by
    rw [List.length_map, k2.length_eq]
    rw [List.length_map] at hz
    exact hz
  exact ⟨.ref _, upd H (s.heap.objs.size + 1) (.lst ((out.map SrtO.iv).map V.int)), I.laid (t' := s.toks) (fun _ _ => PyProof.Rows.sortedAll_old) (Nat.le_succ _) ⟨hlen, out, ep, vals_of_ints k1, he'⟩, rfl, q _ _ k2 k3 (I.hok.fresh (Nat.le_succ _))⟩
theorem frN_sorted : FrN X (.builtin "sorted") sortedN := fun pins s σ H O xs us ds res Q I rx x1 hr q => by
  unfold sortedN at hr
  split at hr
  · exact frN_sortedL pins s σ H O xs us _ res Q I rx x1 hr q
  · rename_i l
    cases e : intsD l with
    | none => rw [e] at hr; cases hr
    | some ns =>
      rw [e] at hr
      cases hr
      obtain rfl := intsD_inv e
      obtain ⟨x, rfl, r⟩ := x1.one
      obtain ⟨a, ys, rfl, h, r⟩ := r.tup_inv
      rw [r.ints] at h
      refine cr_sortedTI pins s σ H _ us Q I rx ⟨a, ns, rfl, h.le.sq, fun ns' p h1 h2 np => ?_⟩
      rw [ord_uniq (h1.trans (sortI_perm ns).symm) h2 (sortI_ord ns)]
      exact q p _ np (RpA.of_ints _)
  · cases hr
/-! repr -/
def reprN : List D → Option D
  | [d] => if d.showable = true ∧ shp d = true ∧ d.shown.length ≤ line then some (.str d.shown) else none
  | _ => none
mutual
theorem noDict_plain : ∀ d : D, d.plain = true → d.hasDict = false
  | .none, _ => by simp [PyData.hasDict]
  | .bool _, _ => by simp [PyData.hasDict]
  | .int _, _ => by simp [PyData.hasDict]
  | .str _, _ => by simp [PyData.hasDict]
  | .list ds, h => by simpa [PyData.hasDict] using noDictAll_plain ds (by simpa [PyData.plain] using h)
  | .tuple ds, h => by simpa [PyData.hasDict] using noDictAll_plain ds (by simpa [PyData.plain] using h)
  | .dict _, h => by simp [PyData.plain] at h
theorem noDictAll_plain : ∀ ds : List D, PyData.plainAll ds = true → PyData.hasDictAll ds = false
  | [], _ => by simp [PyData.hasDictAll]
  | d :: ds, h => by
    have h' : d.plain = true ∧ PyData.plainAll ds = true := by simpa [PyData.plainAll] using h
    simp [PyData.hasDictAll, noDict_plain d h'.1, noDictAll_plain ds h'.2]
end
theorem opN_repr (hgu : X.A.guards = some []) (hu : X.A.units + 66 < cLine) : OpN X (.builtin "repr") reprN := fun pins s σ H O xs us ds res Q I dm rx x1 hr q => by
  unfold reprN at hr
  split at hr
  · rename_i d
    split at hr
    · rename_i z
      obtain ⟨z1, z2, z3⟩ := z
      rw [line_eq] at z3
      cases hr
      obtain ⟨x, rfl, r⟩ := x1.one
      obtain ⟨u, rfl, ru⟩ := vals1 rx
      have dp := r.dpS z2
      obtain ⟨as, rd⟩ := Dp.reads I d x u dp ru
      have hd : d.hasDict = false := noDict_plain d (shp_plain z2)
      have hdep : d.depth ≤ 64 := shp_depth z2
      have fin : ∀ (t : Tok) (s' : Shared), Inv X pins σ H s' → EP X pins σ Q (.str d.shown t) s' := fun t s' I' => ⟨.str d.shown, H, I', ⟨t, rfl⟩, val_at q (.str _)⟩
      cases d with
      | none => cases rd; exact PySem.P.repr_of_none (fin _ _ (I.tok _))
      | bool b => cases rd; exact PySem.P.repr_of_bool (fin _ _ (I.tok _))
      | int i => cases rd; exact PySem.P.repr_of_int (of_decide_eq_true (by simpa [PyData.showable] using z1)) (fin _ _ (I.tok _))
      | str x => cases rd; exact PySem.P.repr_of_str (fin _ _ (I.tok _)) z3
      | list ds =>
        cases dp with
        | lst _ _ =>
          cases ru
          exact repr_of_reads' rd z1 (PyData.noDict_hsm hd) hgu (by omega) (fun b o e => e) (fun h' u tk hk => fin _ _ (I.kept hk)) z3
      | tuple ds =>
        cases dp with
        | tup _ _ =>
          cases ru
          exact repr_of_reads' rd z1 (PyData.noDict_hsm hd) hgu (by omega) (fun b o e => e) (fun h' u tk hk => fin _ _ (I.kept hk)) z3
      | dict kvs => simp [PyData.hasDict] at hd
    · cases hr
  · cases hr
/-! isinstance(e, T) -/
def tyD : D → String
  | .none => "NoneType"
  | .bool _ => "bool"
  | .int _ => "int"
  | .str _ => "str"
  | .list _ => "list"
  | .tuple _ => "tuple"
  | .dict _ => "dict"
def isD (T : String) (d : D) : Option Bool := kitB (tyD d) T
theorem tup_ty {K : PySem.W.Frag} {z : Bool} {H : Hp} {a : Addr} {xs : List V} (h : TupAt z H a xs) : TyX K H (.ref a) (.type "tuple") := by
  cases z with
  | false => exact .base (.tup h)
  | true => obtain ⟨o, e, _⟩ := h; exact .fTuple e
theorem rp1_ty {K : PySem.W.Frag} {O : List Addr} {H : Hp} {x : V} {d : D} (r : Rp1 K O H x d) : TyX K H x (.type (tyD d)) := by
  have main : ∀ {G : Hp}, Same G H → Rp K G x d → TyX K H x (.type (tyD d)) := fun hs r => by
    cases r with
    | non => exact .base .non
    | bl b => exact .base (.bl b)
    | int i => exact .base (.int i)
    | str x => exact .base (.str x)
    | lst s _ => exact .base (.lst (hs _ _ s))
    | tup s _ => exact tup_ty (s.at fun u e => hs _ u e)
    | dK s _ => exact .base (.dK (hs _ _ s))
    | dT s _ _ => exact .base (.dT (hs _ _ s))
  cases r with
  | of r => exact main fz_le r
  | lst s _ => exact .base (.lst s)
  | dK s _ => exact .base (.dK s)
  | dT s _ _ => exact .base (.dT s)
def cIsi (T : String) (f : M Od) : M D := bnd f fun p => bnd (rdM p) fun d => bnd (lft (isD T d)) fun b => ret (.bool b)
theorem de_isi {T : String} {x : Str} {e : Expr} {p p2 : Pos} {f : M Od} (hT : bootBuiltins x = some (.type T)) (hx : X.mg x = none) (hgx : Gl X x) (hg : Gl X "isinstance") (hm : X.mg "isinstance" = none) (ha : DO X e f) (hn : x ≠ "__name__" := by decide) (hd : (x == ("__debug__" : Str)) = false := by decide)
    (he : starEach [e, .Name x p2] X.env = (false, eval e X.env) :: starEach [.Name x p2] X.env := by rfl) (he2 : starEach [.Name x p2] X.env = (false, eval (.Name x p2) X.env) :: starEach [] X.env := by rfl) (hpl : (backTo pos (starEach [.Name x p2] X.env)).any (·.1) = false := by rfl) :
    DE X (.Call (.Name "isinstance" p) [e, .Name x p2] [] pos) (cIsi T f) := by
  refine ⟨fun pins sh σ H Q I h => ?_⟩
  obtain ⟨F, O, s, z, s', R, hf, q⟩ := h
  obtain ⟨p, s1, h1, hf⟩ := bnd_inv hf
  obtain ⟨d, s2, h2, hf⟩ := bnd_inv hf
  obtain ⟨d1, e1, e2⟩ := rdM_inv h2
  cases e2
  obtain ⟨b, s3, h3, hf⟩ := bnd_inv hf
  obtain ⟨b', e3, e4⟩ := lft_inv h3
  cases e4
  cases hf
  refine (pe_callB call_isi hg hm (by decide +kernel) (pa_cons ha (pa_cons (pe_bltn hgx hx hT (v := .ty T) rfl hn hd) pa_nil he2) he) (by decide) (by decide) he hpl).run pins sh σ H Q I ⟨F, O, s, p, _, R, h1, fun y H1 R1 S1 k1 o1 => ?_⟩
  exact ⟨y, .ty T, .type (tyD d), .type T, b, rfl, .ty T, rp1_ty (OdOk.rd R1 o1 e1), kit_ty e3, q _ H1 R1 S1 k1 (.bl _)⟩
end
end DL
set_option Elab.async false
set_option linter.all false
set_option maxRecDepth 100000
set_option maxHeartbeats 2000000
/-! DL12: loops over zip, strict zip, enumerate, of lists and tuples in any mix. -/
namespace DL
open PySem PySem.Spec L2
open PyProof.Rows hiding St
variable [Zm]

/-! ### a list or a tuple (true) -/
def SqK (K : PySem.W.Frag) (H : Hp) (k : Bool) (a : Addr) (xs : List V) : Prop := match k with
  | true => SqT K H a xs
  | false => SqL K H a xs
def hasK (k : Bool) (h : Heap) (a : Addr) (items : Array Value) : Prop := match k with
  | true => h.IsTuple a items
  | false => h.IsList a items
def itK (k : Bool) (h : Heap) (it a : Addr) (i : Nat) : Prop := match k with
  | true => h.IsTupleIter it a i
  | false => h.IsListIter it a i
def obK (k : Bool) (a : Addr) : Obj := match k with
  | true => { cls := .type "tuple_iterator", data := .fields #[.ref a, .int 0 0] }
  | false => { cls := .type "list_iterator", data := .fields #[.ref a, .int 0 0] }
theorem itK_obj {k : Bool} {h : Heap} {it a : Addr} {i : Nat} (st : itK k h it a i) : ∃ o, h.get? it = some o ∧ ∀ v, o.data ≠ .cell v := by
  cases k with
  | true => obtain ⟨o, e, _, d⟩ := (show h.IsTupleIter it a i from st); exact ⟨o, e, fun v q => by rw [d] at q; cases q⟩
  | false => obtain ⟨o, e, _, d⟩ := (show h.IsListIter it a i from st); exact ⟨o, e, fun v q => by rw [d] at q; cases q⟩
theorem itK_at {k : Bool} {h h' : Heap} {it a : Addr} {i : Nat} (st : itK k h it a i) (q : ∀ o, h.get? it = some o → h'.get? it = some o) : itK k h' it a i := by
  cases k with
  | true => exact (show h.IsTupleIter it a i from st).at q
  | false => exact (show h.IsListIter it a i from st).at q
theorem itK_new {k : Bool} {h : Heap} {it a : Addr} (e : h.get? it = some (obK k a)) : itK k h it a 0 := by
  cases k with
  | true => exact ⟨_, e, rfl, rfl⟩
  | false => exact ⟨_, e, rfl, rfl⟩
theorem begK (k : Bool) (a : Addr) (items : Array Value) : Begins (.ref a) (obK k a) fun h => hasK k h a items := by
  cases k with
  | true => exact begins_tuple a items
  | false => exact begins_list a items
theorem drawK {prog : Program} {w : World} {A : Around} (hh : A.handled = none) (k : Bool) (it a : Addr) (hne : a ≠ it) (items : Array Value) :
    Draws prog w A it [it, a] items.size (fun i v => items[i]? = some v) (fun i h => itK k h it a i ∧ hasK k h a items) := by
  cases k with
  | true => exact Draws.tuple hh it a hne items
  | false => exact Draws.list hh it a hne items
section
variable {X : Cx} {pins : List (Addr × Obj)} {s : Shared} {σ : St} {H : Hp}
theorem seqK (I : Inv X pins σ H s) {k : Bool} {a : Addr} {xs : List V} (h : SqK X.K H k a xs) : ∃ its : List Value, Vals xs its ∧ hasK k s.heap a its.toArray ∧ xs.length ≤ sizeLine ∧ a < s.heap.objs.size := by
  cases k with
  | true =>
    obtain ⟨its, rv, p, hz⟩ := I.tuple h
    obtain ⟨o, ho, _⟩ := id p
    exact ⟨its, rv, p, hz, Heap.lt_size ho⟩
  | false =>
    obtain ⟨its, rv, p, hz⟩ := I.list h
    exact ⟨its, rv, p.isList, hz, p.lt⟩
theorem injK (I : Inv X pins σ H s) {k : Bool} {a : Addr} {xs ys : List V} (h : SqK X.K H k a xs) (h' : SqK X.K H k a ys) : xs = ys := by
  cases k with
  | true => exact I.tuple_inj h h'
  | false => exact I.list_inj h h'
end

/-! ### a walk that hands out tuples -/
theorem turn_of {P : Program} {w : World} {K : PySem.W.Frag} {elts : List Expr} {kk : Nat} {tpos : Pos} {J : It} {fp wr : List Addr} {z : Addr} {tn : Nat → Heap → Prop} (mem : z ∈ fp) (sub : ∀ b ∈ wr, b ∈ fp)
    (obj : ∀ i h, tn i h → ∀ b ∈ fp, ∃ o, h.get? b = some o ∧ ∀ v, o.data ≠ .cell v) (keep : ∀ i h h', tn i h → (∀ b ∈ fp, ∀ o, h.get? b = some o → h'.get? b = some o) → tn i h')
    (self : ∀ (A : Around) (i : Nat) (s : Shared) (Q : Value → Shared → Prop) (E : Value → Shared → Prop), tn i s.heap → Q (.ref z) s → wpAny (model P w) A (pyIter (.ref z)) Q E s)
    (go : ∀ (X : Cx), X.prog = P → X.w = w → X.K = K → X.calm = true → ∀ (i : Nat) (pins : List (Addr × Obj)) (s : Shared) (σ : St) (H : Hp), Inv X pins σ H s → (∀ b ∈ fp, FpOk X pins H b) → tn i s.heap → J.go i H →
      ∃ (n : Nat) (Pt : Nat → Array Value → Prop) (Sw : Nat → Heap → Prop) (Mid : Nat → Addr → Heap → Prop), Zs.WalksX P w X.A z wr n Pt Sw Mid ∧ i < n ∧ Sw i s.heap ∧ (∀ h, Sw (i + 1) h → tn (i + 1) h) ∧
        ∀ vals : Array Value, Pt i vals → ∃ zs : List V, Vals zs vals.toList ∧ zs.length ≤ sizeLine ∧ ∀ (T : Addr) (ob : Obj), ob.dict = none → H T = none → J.yld i H (.ref T) (upd H T (tupO Zm.z ob zs)))
    (stop : ∀ (X : Cx), X.prog = P → X.w = w → X.K = K → X.calm = true → ∀ (i : Nat) (pins : List (Addr × Obj)) (s : Shared) (σ : St) (H : Hp), Inv X pins σ H s → (∀ b ∈ fp, FpOk X pins H b) → tn i s.heap → J.stop i H →
      ∃ (Pt : Nat → Array Value → Prop) (Sw : Nat → Heap → Prop) (Mid : Nat → Addr → Heap → Prop), Zs.WalksX P w X.A z wr i Pt Sw Mid ∧ Sw i s.heap) :
    Turn P w K (.Tuple elts kk tpos) J fp z tn where
  mem := mem
  obj := obj
  keep := keep
  item := by
    intro X hP hw hK hc i pins s σ H E I hf st hg
    obtain ⟨n, Pt, Sw, Mid, W, hi, sw, hn, hv⟩ := go X hP hw hK hc i pins s σ H I hf st hg
    refine W.item i s _ _ hi sw fun T vals h' tk hp hT hI hM hk => ?_
    obtain ⟨zs, rz, hz, hy⟩ := hv vals hp
    refine ⟨_, rfl, W.go elts kk tpos i T _ _ _ hM fun h'' sw2 hk2 => ?_⟩
    have nT : T ∉ wr := W.apart i T h' hM
    have I2 : h''.get? T = some { cls := .type "tuple", data := .seq vals } := hk2 T _ nT hI
    have hn0 : H T = none := I.hok.fresh hT
    have J1 : Inv X pins σ (upd H T (tupO Zm.z { cls := .type "tuple", data := .seq vals } zs)) { s with heap := h'', toks := tk } := I.turnedNew (ch := wr) (fun b o hb e => hk2 b o hb (hk b o hb e)) (fun b hb => hf b (sub b hb)) hT (tupO_ok (its := vals.toList) (n := 0) I2 rfl (by simp) rz hz)
    refine ⟨.ref T, _, J1, rfl, hy T _ rfl hn0, hn _ sw2, fun b hb => ?_⟩
    obtain ⟨o, ho, _⟩ := obj i s.heap st b hb
    rw [upd_ne (Nat.ne_of_lt (Nat.lt_of_lt_of_le (Heap.lt_size ho) hT))]
    exact (hf b hb).1
  done := by
    intro X hP hw hK hc i pins s σ H E I hf st hg
    obtain ⟨Pt, Sw, Mid, W, sw⟩ := stop X hP hw hK hc i pins s σ H I hf st hg
    exact W.done s _ _ sw fun h' tk hk => ⟨rfl, I.turnedL (ch := wr) hk fun b hb => hf b (sub b hb)⟩
  self := self
theorem fp_new {X : Cx} {pins : List (Addr × Obj)} {s : Shared} {σ : St} {H : Hp} (I : Inv X pins σ H s) {fp : List Addr} (h : ∀ b ∈ fp, s.heap.objs.size ≤ b) : ∀ b ∈ fp, FpOk X pins H b := fun b hb => I.fpOk (h b hb) (I.hok.fresh (h b hb))

/-! ### enumerate -/
def Jen (K : PySem.W.Frag) (k : Bool) (a : Addr) : It :=
  ⟨fun i H => ∃ (xs : List V) (x : V), SqK K H k a xs ∧ xs[i]? = some x, fun i H v H' => ∃ (T : Addr) (ob : Obj) (x : V), v = .ref T ∧ ob.dict = none ∧ H T = none ∧ H' = upd H T (tupO Zm.z ob [.int (i : Nat), x]) ∧ ∀ xs, SqK K H k a xs → xs[i]? = some x, fun i H => ∃ xs : List V, SqK K H k a xs ∧ xs.length = i⟩
theorem get_rel {xs : List V} {its : List Value} {i : Nat} {x : V} {u : Value} (rv : Vals xs its) (hx : xs[i]? = some x) (hu : its.toArray[i]? = some u) : RelV x u := by
  obtain ⟨u', e, r⟩ := rv.get hx
  have e2 : its[i]? = some u := by simpa using hu
  rw [e] at e2
  cases e2
  exact r
theorem turn_en {P : Program} {w : World} {K : PySem.W.Frag} {elts : List Expr} {kk : Nat} {tpos : Pos} (k : Bool) (a e it : Addr) (hei : e ≠ it) (hea : e ≠ a) (hia : a ≠ it) :
    Turn P w K (.Tuple elts kk tpos) (Jen K k a) [e, it] e (fun i h => (∃ old, IsEnum h e it ((i : Nat) : Int) old) ∧ itK k h it a i) := by
  refine turn_of (wr := [e, it]) (by simp) (fun b hb => hb) (fun i h st b hb => ?_) (fun i h h' st q => ?_) (fun A i s Q E st h => let ⟨⟨_, he⟩, _⟩ := st; wpAny_pyIter_enum he h) ?_ ?_
  · obtain ⟨⟨old, he⟩, st2⟩ := st
    have e' : b = e ∨ b = it := by simpa using hb
    rcases e' with z | z
    · rw [z]; exact ⟨_, he, fun v q => nomatch q⟩
    · rw [z]; exact itK_obj st2
  · obtain ⟨⟨old, he⟩, st2⟩ := st
    exact ⟨⟨old, q e (by simp) _ he⟩, itK_at st2 fun o z => q it (by simp) o z⟩
  · intro X hP hw hK hc i pins s σ H I hf st hg
    subst hP hw hK
    obtain ⟨xs, x, hq, hx⟩ := hg
    obtain ⟨its, rv, hp, _, _⟩ := seqK I hq
    have hl := rv.length
    refine ⟨_, _, _, _, Zs.walkEn (A := X.A) (drawK (A := X.A.in1) (I.ok.hd hc) k it a hia its.toArray) hei (by simp [hei, hea]) (by simp), ?_, ⟨st.1, st.2, hp⟩, fun h q => ⟨?_, q.2.1⟩, fun vals hv => ?_⟩
    · have := (List.getElem?_eq_some_iff.mp hx).1
      rw [List.size_toArray]; omega
    · obtain ⟨old, q⟩ := q.1
      exact ⟨old, by simpa using q⟩
    · obtain ⟨t, u, hu, rfl⟩ := hv
      refine ⟨[.int (i : Nat), x], .cons ⟨t, rfl⟩ (.cons (get_rel rv hx hu) .nil), by show 2 ≤ sizeLine; decide, fun T ob hob hT => ⟨T, ob, x, rfl, hob, hT, rfl, fun ys hy => ?_⟩⟩
      rw [injK I hy hq]; exact hx
  · intro X hP hw hK hc i pins s σ H I hf st hg
    subst hP hw hK
    obtain ⟨xs, hq, hx⟩ := hg
    obtain ⟨its, rv, hp, _, _⟩ := seqK I hq
    have hl := rv.length
    have hi : i = its.toArray.size := by rw [List.size_toArray]; omega
    have W := Zs.walkEn (A := X.A) (drawK (prog := X.prog) (w := X.w) (A := X.A.in1) (I.ok.hd hc) k it a hia its.toArray) hei (by simp [hei, hea]) (by simp)
    rw [← hi] at W
    exact ⟨_, _, _, W, ⟨st.1, st.2, hp⟩⟩
/-! ### zip of two -/
def Jz2 (K : PySem.W.Frag) (sr : Bool) (k l : Bool) (a b : Addr) : It :=
  ⟨fun i H => ∃ (xs ys : List V) (x y : V), SqK K H k a xs ∧ SqK K H l b ys ∧ xs[i]? = some x ∧ ys[i]? = some y ∧ (sr = true → xs.length = ys.length),
    fun i H v H' => ∃ (T : Addr) (ob : Obj) (x y : V), v = .ref T ∧ ob.dict = none ∧ H T = none ∧ H' = upd H T (tupO Zm.z ob [x, y]) ∧ (∀ xs, SqK K H k a xs → xs[i]? = some x) ∧ ∀ ys, SqK K H l b ys → ys[i]? = some y,
    fun i H => ∃ xs ys : List V, SqK K H k a xs ∧ SqK K H l b ys ∧ i = min xs.length ys.length ∧ (sr = true → xs.length = ys.length)⟩
theorem turn_z2 {P : Program} {w : World} {K : PySem.W.Frag} {elts : List Expr} {kk : Nat} {tpos : Pos} (k l : Bool) {z TI TO i1 i2 a b : Addr} (S : ZipSep2 z TI TO i1 i2 [i1, a] [i2, b]) (ha : a ≠ i1) (hb : b ≠ i2) :
    Turn P w K (.Tuple elts kk tpos) (Jz2 K false k l a b) [z, TI, TO, i1, i2] z (fun i h => IsZip h z TI TO .none ∧ IsTupOf2 h TI (.ref i1) (.ref i2) ∧ (∃ x y, IsTupOf2 h TO x y) ∧ itK k h i1 a i ∧ itK l h i2 b i) := by
  refine turn_of (wr := [z, TO, i1, i2]) (by simp) (fun b hb => by simp at hb ⊢; rcases hb with h | h | h | h <;> simp [h]) (fun i h st b hb => ?_) (fun i h h' st q => ?_) (fun A i s Q E st h => wpAny_pyIter_zip st.1 h) ?_ ?_
  · obtain ⟨hz, hTI, ⟨x, y, hTO⟩, h1, h2⟩ := st
    have e' : b = z ∨ b = TI ∨ b = TO ∨ b = i1 ∨ b = i2 := by simpa using hb
    rcases e' with q | q | q | q | q
    · rw [q]; exact ⟨_, hz, fun v q => nomatch q⟩
    · rw [q]; exact ⟨_, hTI, fun v q => nomatch q⟩
    · rw [q]; exact ⟨_, hTO, fun v q => nomatch q⟩
    · rw [q]; exact itK_obj h1
    · rw [q]; exact itK_obj h2
  · obtain ⟨hz, hTI, ⟨x, y, hTO⟩, h1, h2⟩ := st
    exact ⟨q z (by simp) _ hz, q TI (by simp) _ hTI, ⟨x, y, q TO (by simp) _ hTO⟩, itK_at h1 fun o z => q i1 (by simp) o z, itK_at h2 fun o z => q i2 (by simp) o z⟩
  · intro X hP hw hK hc i pins s σ H I hf st hg
    subst hP hw hK
    obtain ⟨xs, ys, x, y, hx0, hy0, hx, hy, _⟩ := hg
    obtain ⟨its, rv, hp, _, _⟩ := seqK I hx0
    obtain ⟨its2, rv2, hp2, _, _⟩ := seqK I hy0
    have l1 := rv.length
    have l2 := rv2.length
    have m1 := (List.getElem?_eq_some_iff.mp hx).1
    have m2 := (List.getElem?_eq_some_iff.mp hy).1
    obtain ⟨hz, hTI, hTO, h1, h2⟩ := st
    refine ⟨_, _, _, _, Zs.walkZ2 (A := X.A) S (drawK (A := X.A.in1) (I.ok.hd hc) k i1 a ha its.toArray) (drawK (A := X.A.in1) (I.ok.hd hc) l i2 b hb its2.toArray), ?_, ⟨hz, hTI, hTO, ⟨h1, hp⟩, ⟨h2, hp2⟩⟩, fun h q => ⟨q.1, q.2.1, q.2.2.1, q.2.2.2.1.1, q.2.2.2.2.1⟩, fun vals hv => ?_⟩
    · rw [List.size_toArray, List.size_toArray]; omega
    · obtain ⟨u, u2, hu, hu2, rfl⟩ := hv
      refine ⟨[x, y], .cons (get_rel rv hx hu) (.cons (get_rel rv2 hy hu2) .nil), by show 2 ≤ sizeLine; decide, fun T ob hob hT => ⟨T, ob, x, y, rfl, hob, hT, rfl, fun zs h => ?_, fun zs h => ?_⟩⟩
      · rw [injK I h hx0]; exact hx
      · rw [injK I h hy0]; exact hy
  · intro X hP hw hK hc i pins s σ H I hf st hg
    subst hP hw hK
    obtain ⟨xs, ys, hx0, hy0, hi, _⟩ := hg
    obtain ⟨its, rv, hp, _, _⟩ := seqK I hx0
    obtain ⟨its2, rv2, hp2, _, _⟩ := seqK I hy0
    have l1 := rv.length
    have l2 := rv2.length
    obtain ⟨hz, hTI, hTO, h1, h2⟩ := st
    have W := Zs.walkZ2 (A := X.A) S (drawK (prog := X.prog) (w := X.w) (A := X.A.in1) (I.ok.hd hc) k i1 a ha its.toArray) (drawK (A := X.A.in1) (I.ok.hd hc) l i2 b hb its2.toArray)
    rw [show min its.toArray.size its2.toArray.size = i by rw [List.size_toArray, List.size_toArray, ← l1, ← l2, hi]] at W
    exact ⟨_, _, _, W, ⟨hz, hTI, hTO, ⟨h1, hp⟩, ⟨h2, hp2⟩⟩⟩
theorem turn_zs2 {P : Program} {w : World} {K : PySem.W.Frag} {elts : List Expr} {kk : Nat} {tpos : Pos} (k l : Bool) {z TI TO i1 i2 a b : Addr} (S : ZipSep2 z TI TO i1 i2 [i1, a] [i2, b]) (ha : a ≠ i1) (hb : b ≠ i2) :
    Turn P w K (.Tuple elts kk tpos) (Jz2 K true k l a b) [z, TI, TO, i1, i2] z (fun i h => Zs.IsZs h z TI TO .none ∧ IsTupOf2 h TI (.ref i1) (.ref i2) ∧ (∃ x y, IsTupOf2 h TO x y) ∧ itK k h i1 a i ∧ itK l h i2 b i) := by
  refine turn_of (wr := [z, TO, i1, i2]) (by simp) (fun b hb => by simp at hb ⊢; rcases hb with h | h | h | h <;> simp [h]) (fun i h st b hb => ?_) (fun i h h' st q => ?_) (fun A i s Q E st h => Zs.zs_iter st.1 h) ?_ ?_
  · obtain ⟨hz, hTI, ⟨x, y, hTO⟩, h1, h2⟩ := st
    have e' : b = z ∨ b = TI ∨ b = TO ∨ b = i1 ∨ b = i2 := by simpa using hb
    rcases e' with q | q | q | q | q
    · rw [q]; exact ⟨_, hz, fun v q => nomatch q⟩
    · rw [q]; exact ⟨_, hTI, fun v q => nomatch q⟩
    · rw [q]; exact ⟨_, hTO, fun v q => nomatch q⟩
    · rw [q]; exact itK_obj h1
    · rw [q]; exact itK_obj h2
  · obtain ⟨hz, hTI, ⟨x, y, hTO⟩, h1, h2⟩ := st
    exact ⟨q z (by simp) _ hz, q TI (by simp) _ hTI, ⟨x, y, q TO (by simp) _ hTO⟩, itK_at h1 fun o z => q i1 (by simp) o z, itK_at h2 fun o z => q i2 (by simp) o z⟩
  · intro X hP hw hK hc i pins s σ H I hf st hg
    subst hP hw hK
    obtain ⟨xs, ys, x, y, hx0, hy0, hx, hy, hsr⟩ := hg
    obtain ⟨its, rv, hp, _, _⟩ := seqK I hx0
    obtain ⟨its2, rv2, hp2, _, _⟩ := seqK I hy0
    have l1 := rv.length
    have l2 := rv2.length
    have m1 := (List.getElem?_eq_some_iff.mp hx).1
    have l3 := hsr rfl
    have e2 : its2.toArray.size = its.toArray.size := by rw [List.size_toArray, List.size_toArray]; omega
    obtain ⟨hz, hTI, hTO, h1, h2⟩ := st
    have D2 := drawK (prog := X.prog) (w := X.w) (A := X.A.in1) (I.ok.hd hc) l i2 b hb its2.toArray
    rw [e2] at D2
    refine ⟨_, _, _, _, Zs.walkS2 (A := X.A) (I.ok.hd hc) S (Ne.symm S.zi1) (drawK (A := X.A.in1) (I.ok.hd hc) k i1 a ha its.toArray) D2, ?_, ⟨hz, hTI, hTO, ⟨h1, hp⟩, ⟨h2, hp2⟩⟩, fun h q => ⟨q.1, q.2.1, q.2.2.1, q.2.2.2.1.1, q.2.2.2.2.1⟩, fun vals hv => ?_⟩
    · rw [List.size_toArray]; omega
    · obtain ⟨u, u2, hu, hu2, rfl⟩ := hv
      refine ⟨[x, y], .cons (get_rel rv hx hu) (.cons (get_rel rv2 hy hu2) .nil), by show 2 ≤ sizeLine; decide, fun T ob hob hT => ⟨T, ob, x, y, rfl, hob, hT, rfl, fun zs h => ?_, fun zs h => ?_⟩⟩
      · rw [injK I h hx0]; exact hx
      · rw [injK I h hy0]; exact hy
  · intro X hP hw hK hc i pins s σ H I hf st hg
    subst hP hw hK
    obtain ⟨xs, ys, hx0, hy0, hi, hsr⟩ := hg
    obtain ⟨its, rv, hp, _, _⟩ := seqK I hx0
    obtain ⟨its2, rv2, hp2, _, _⟩ := seqK I hy0
    have l1 := rv.length
    have l2 := rv2.length
    have l3 := hsr rfl
    obtain ⟨hz, hTI, hTO, h1, h2⟩ := st
    have D1 := drawK (prog := X.prog) (w := X.w) (A := X.A.in1) (I.ok.hd hc) k i1 a ha its.toArray
    have D2 := drawK (prog := X.prog) (w := X.w) (A := X.A.in1) (I.ok.hd hc) l i2 b hb its2.toArray
    rw [show its.toArray.size = i by rw [List.size_toArray]; omega] at D1
    rw [show its2.toArray.size = i by rw [List.size_toArray]; omega] at D2
    exact ⟨_, _, _, Zs.walkS2 (A := X.A) (I.ok.hd hc) S (Ne.symm S.zi1) D1 D2, ⟨hz, hTI, hTO, ⟨h1, hp⟩, ⟨h2, hp2⟩⟩⟩
end DL
set_option Elab.async false
set_option linter.all false
set_option maxRecDepth 100000
set_option maxHeartbeats 2000000
/-! DL13: the loops' rules: enumerate, zip, strict zip. -/
namespace DL
open PySem PySem.Spec L2
open PyProof.Rows hiding St
variable [Zm]

theorem Rp.seq {K : PySem.W.Frag} {G H : Hp} {x : V} {d : D} {ds : List D} (hs : Same G H) (r : Rp K G x d) (h : seqOf d = some ds) : ∃ k a xs, x = .ref a ∧ (∀ H' : Hp, Same G H' → SqK K H' k a xs) ∧ RpA K G xs ds := by
  unfold seqOf at h
  split at h
  · cases h
    obtain ⟨a, xs, e, g, ra⟩ := r.list_inv
    exact ⟨false, a, xs, e, fun H' s => SqL.of (s _ _ g), ra⟩
  · cases h
    obtain ⟨a, xs, e, g, ra⟩ := r.tup_inv
    exact ⟨true, a, xs, e, fun H' s => (g.at fun u e => s _ u e).sq, ra⟩
  · cases h
theorem fzH {O O' : List Addr} {H1 H : Hp} (s : Same (fz O H1) (fz O' H)) : Same (fz O H1) H := s.trans fz_le
section
variable {X : Cx} {pos : Pos}
def enumL (ds : List D) : List D := (List.range ds.length).zipWith (fun i d => PyData.tuple [.int (i : Nat), d]) ds
def enumD : List D → Option (List D)
  | [d] => (seqOf d).map enumL
  | _ => none
def zipL (xs ys : List D) : List D := List.zipWith (fun x y => PyData.tuple [x, y]) xs ys
def zipD (sr : Bool) : List D → Option (List D)
  | [d, e] => match seqOf d, seqOf e with
    | some xs, some ys => if sr = true ∧ xs.length ≠ ys.length then none else some (zipL xs ys)
    | _, _ => none
  | _ => none
def cIt (r : List D → Option (List D)) (f : M (List D)) : M (List D) := bnd f fun ds => lft (r ds)
theorem cIt_inv {r : List D → Option (List D)} {f : M (List D)} {s s' : S} {items : List D} (h : cIt r f s = some (items, s')) : ∃ ds, f s = some (ds, s') ∧ r ds = some items := by
  obtain ⟨ds, s1, h1, h2⟩ := bnd_inv h
  obtain ⟨z, e1, e2⟩ := lft_inv h2
  cases e2
  exact ⟨ds, h1, e1⟩
theorem enumL_get {ds : List D} {i : Nat} {d : D} (h : (enumL ds)[i]? = some d) : ∃ e, ds[i]? = some e ∧ d = .tuple [.int (i : Nat), e] := by
  unfold enumL at h
  rw [List.getElem?_zipWith] at h
  split at h
  · rename_i a b h1 h2
    cases h
    have hi := (List.getElem?_eq_some_iff.mp h1).1
    rw [List.getElem?_range (by simpa using hi)] at h1
    cases h1
    exact ⟨b, h2, rfl⟩
  · cases h
theorem enumL_len (ds : List D) : (enumL ds).length = ds.length := by unfold enumL; rw [List.length_zipWith, List.length_range, Nat.min_self]
theorem zipL_get {xs ys : List D} {i : Nat} {d : D} (h : (zipL xs ys)[i]? = some d) : ∃ e f, xs[i]? = some e ∧ ys[i]? = some f ∧ d = .tuple [e, f] := by
  unfold zipL at h
  rw [List.getElem?_zipWith] at h
  split at h
  · rename_i a b h1 h2
    cases h
    exact ⟨a, b, h1, h2, rfl⟩
  · cases h
theorem zipL_len (xs ys : List D) : (zipL xs ys).length = min xs.length ys.length := by unfold zipL; rw [List.length_zipWith]
theorem tup_new {K : PySem.W.Frag} {O : List Addr} {H : Hp} {T : Addr} {ob : Obj} {xs : List V} {ds : List D} (dm : Dom O H) (hd : ob.dict = none) (hT : H T = none) (r : RpA K (fz O H) xs ds) : Same H (upd H T (tupO Zm.z ob xs)) ∧ Rp K (fz O (upd H T (tupO Zm.z ob xs))) (.ref T) (.tuple ds) :=
  ⟨same_upd hT, .tup (tupAt_fz (dm.ne hT) hd) (r.mono (fz_same (same_upd hT)))⟩
theorem yl_en {K : PySem.W.Frag} {O : List Addr} {H1 : Hp} {k : Bool} {a : Addr} {xs : List V} {ds : List D} (hs : ∀ H' : Hp, Same (fz O H1) H' → SqK K H' k a xs) (r : RpA K (fz O H1) xs ds) : Yl K O H1 (Jen K k a) (enumL ds) := fun O' H S dm => by
  refine ⟨fun i d hi => ?_, ⟨xs, hs H (fzH S), by rw [enumL_len, r.len]⟩⟩
  obtain ⟨e, he, rfl⟩ := enumL_get hi
  obtain ⟨x, hx, rx⟩ := r.get he
  refine ⟨⟨xs, x, hs H (fzH S), hx⟩, fun y H' ⟨T, ob, x2, e1, hd, e2, e3, e4⟩ => ?_⟩
  subst e1 e3
  have e5 := e4 xs (hs H (fzH S))
  rw [hx] at e5
  cases e5
  exact tup_new dm hd e2 (.cons (.int _) (.cons (rx.mono S) .nil))
theorem yl_z2 {K : PySem.W.Frag} {O : List Addr} {H1 : Hp} {sr k l : Bool} {a b : Addr} {xs ys : List V} {ds es : List D} (hs : ∀ H' : Hp, Same (fz O H1) H' → SqK K H' k a xs) (r : RpA K (fz O H1) xs ds) (hs2 : ∀ H' : Hp, Same (fz O H1) H' → SqK K H' l b ys) (r2 : RpA K (fz O H1) ys es)
    (hl : ¬ (sr = true ∧ ds.length ≠ es.length)) : Yl K O H1 (Jz2 K sr k l a b) (zipL ds es) := fun O' H S dm => by
  have hl' : sr = true → xs.length = ys.length := fun h => by
    rw [r.len, r2.len]
    exact Decidable.byContradiction fun z => hl ⟨h, z⟩
  refine ⟨fun i d hi => ?_, ⟨xs, ys, hs H (fzH S), hs2 H (fzH S), by rw [zipL_len, r.len, r2.len], hl'⟩⟩
  obtain ⟨e, f, he, hf, rfl⟩ := zipL_get hi
  obtain ⟨x, hx, rx⟩ := r.get he
  obtain ⟨y, hy, ry⟩ := r2.get hf
  refine ⟨⟨xs, ys, x, y, hs H (fzH S), hs2 H (fzH S), hx, hy, hl'⟩, fun v H' ⟨T, ob, x2, y2, e1, hd, e2, e3, e4, e5⟩ => ?_⟩
  subst e1 e3
  have e6 := e4 xs (hs H (fzH S))
  have e7 := e5 ys (hs2 H (fzH S))
  rw [hx] at e6
  rw [hy] at e7
  cases e6
  cases e7
  exact tup_new dm hd e2 (.cons (rx.mono S) (.cons (ry.mono S) .nil))
theorem ne_k {n a : Nat} (h : a < n) (k : Nat) : n + k ≠ a := by omega
theorem ne_a {n j k : Nat} (h : j ≠ k) : n + j ≠ n + k := by omega
theorem ne_0 {n k : Nat} (h : k ≠ 0) : n + k ≠ n := by omega
theorem nin2 {x y z : Addr} (h1 : x ≠ y) (h2 : x ≠ z) : x ∉ [y, z] := fun h => (List.mem_cons.mp h).elim h1 fun h => h2 (List.mem_singleton.mp h)
theorem sep_new {n a b : Nat} (ha : a < n) (hb : b < n) : ZipSep2 (n + 4) (n + 2) (n + 3) n (n + 1) [n, a] [n + 1, b] where
  TIz := ne_a (by decide)
  TOz := ne_a (by decide)
  TITO := ne_a (by decide)
  TIi1 := ne_0 (by decide)
  mem1 := List.mem_cons_self
  zf1 := nin2 (ne_0 (by decide)) (ne_k ha 4)
  Tf1 := nin2 (ne_0 (by decide)) (ne_k ha 3)
  TIi2 := ne_a (by decide)
  mem2 := List.mem_cons_self
  zf2 := nin2 (ne_a (by decide)) (ne_k hb 4)
  Tf2 := nin2 (ne_a (by decide)) (ne_k hb 3)
  sep1_2 := nin2 (Ne.symm (ne_0 (by decide))) (Nat.ne_of_gt hb)
  sep2_1 := nin2 (ne_0 (by decide)) (ne_k ha 1)
theorem di_enum {e : Expr} {f : M (List D)} {p tpos : Pos} {elts : List Expr} {kk : Nat} (hg : Gl X "enumerate") (hm : X.mg "enumerate" = none) (ha : DA X [e] f) (hs : starEach [e] X.env = [(false, eval e X.env)] := by rfl) :
    DI X (.Tuple elts kk tpos) (.Call (.Name "enumerate" p) [e] [] pos) (cIt enumD f) := by
  refine ⟨fun pins s σ H Rr I h => ?_⟩
  obtain ⟨F, O, s0, items, s', R, hf, q⟩ := h
  obtain ⟨ds, h1, h2⟩ := cIt_inv hf
  refine Call_ (ld_blt I hg hm boot_enumerate (PyProof.Rows.callWith_type1 (thn (goA (pos := pos) ha I R h1) fun us s1 ⟨vs, H1, I1, rv, R1, S1, K1, ra⟩ => ?_) hs rfl))
  unfold enumD at h2
  split at h2
  · rename_i d _
    cases e0 : seqOf d with
    | none => rw [e0] at h2; cases h2
    | some es =>
      rw [e0] at h2
      cases h2
      cases ra with
      | cons r1 r2 =>
        cases r2
        obtain ⟨k, a, xs, rfl, hx, rx⟩ := r1.seq fz_le e0
        cases rv with
        | cons r rr =>
          cases rr
          cases r
          obtain ⟨its, _, hp, _, hlt⟩ := seqK I1 (hx H1 fz_le)
          refine Zs.en_begins (begK k a its.toArray) hp fun h' he hit hk => wpAny_pyIter_enum he ?_
          have I2 : Inv X pins σ H1 { s1 with heap := h' } := I1.kept (t' := s1.toks) hk
          refine ⟨s1.heap.objs.size + 1, [s1.heap.objs.size + 1, s1.heap.objs.size], _, Jen X.K k a, H1, rfl, I2, turn_en k a (s1.heap.objs.size + 1) s1.heap.objs.size (ne_0 (by decide)) (ne_k hlt 1) (Nat.ne_of_lt hlt), ⟨⟨.none, by simpa using he⟩, itK_new hit⟩, fp_new I1 (fun b hb => by
            have e' : b = s1.heap.objs.size + 1 ∨ b = s1.heap.objs.size := by simpa using hb
            rcases e' with z | z <;> rw [z]
            · exact Nat.le_add_right _ _
            · exact Nat.le_refl _), q _ H1 R1 S1 K1 (yl_en hx rx)⟩
  · cases h2
theorem di_zip2 {e e2 : Expr} {f : M (List D)} {p tpos : Pos} {elts : List Expr} {kk : Nat} (hg : Gl X "zip") (hm : X.mg "zip" = none) (ha : DA X [e, e2] f)
    (hs : starEach [e, e2] X.env = (false, eval e X.env) :: starEach [e2] X.env := by rfl) (hpl : (backTo pos (starEach [e2] X.env)).any (·.1) = false := by rfl) :
    DI X (.Tuple elts kk tpos) (.Call (.Name "zip" p) [e, e2] [] pos) (cIt (zipD false) f) := by
  refine ⟨fun pins s σ H Rr I h => ?_⟩
  obtain ⟨F, O, s0, items, s', R, hf, q⟩ := h
  obtain ⟨ds, h1, h2⟩ := cIt_inv hf
  refine Call_ (ld_blt I hg hm PyProof.Rows.boot_zip (PyProof.Rows.callWith_type1 (thn (goA (pos := pos) ha I R h1) fun us s1 ⟨vs, H1, I1, rv, R1, S1, K1, ra⟩ => ?_) hs hpl))
  unfold zipD at h2
  split at h2
  · rename_i d d2
    split at h2
    · rename_i ds es e0 e1
      split at h2
      · cases h2
      · rename_i hl
        cases h2
        cases ra with
        | cons r1 r2 =>
          cases r2 with
          | cons r2 r3 =>
            cases r3
            obtain ⟨k, a, xs, rfl, hx, rx⟩ := r1.seq fz_le e0
            obtain ⟨l, b, ys, rfl, hy, ry⟩ := r2.seq fz_le e1
            cases rv with
            | cons r rr =>
              cases rr with
              | cons r' rr =>
                cases rr
                cases r
                cases r'
                obtain ⟨its, _, hp, _, hlt⟩ := seqK I1 (hx H1 fz_le)
                obtain ⟨its2, _, hp2, _, hlt2⟩ := seqK I1 (hy H1 fz_le)
                refine zip_begins2 (begK k a its.toArray) (begK l b its2.toArray) hp hp2 fun h' hz hTI hTO hi1 hi2 hsz hk => wpAny_pyIter_zip hz ?_
                have I2 : Inv X pins σ H1 { s1 with heap := h' } := I1.kept (t' := s1.toks) hk
                refine ⟨s1.heap.objs.size + 4, [s1.heap.objs.size + 4, s1.heap.objs.size + 2, s1.heap.objs.size + 3, s1.heap.objs.size, s1.heap.objs.size + 1], _, Jz2 X.K false k l a b, H1, rfl, I2, turn_z2 k l (sep_new hlt hlt2) (Nat.ne_of_lt hlt) (Ne.symm (ne_k hlt2 1)), ⟨hz, hTI, ⟨_, _, hTO⟩, itK_new hi1, itK_new hi2⟩, fp_new I1 (fun b hb => by
                  have e' : b = s1.heap.objs.size + 4 ∨ b = s1.heap.objs.size + 2 ∨ b = s1.heap.objs.size + 3 ∨ b = s1.heap.objs.size ∨ b = s1.heap.objs.size + 1 := by simpa using hb
                  rcases e' with z | z | z | z | z <;> rw [z]
                  · exact Nat.le_add_right _ _
                  · exact Nat.le_add_right _ _
                  · exact Nat.le_add_right _ _
                  · exact Nat.le_refl _
                  · exact Nat.le_add_right _ _), q _ H1 R1 S1 K1 (yl_z2 hx rx hy ry hl)⟩
    · cases h2
  · cases h2
theorem di_zips2 {e e2 : Expr} {f : M (List D)} {p tpos kp cp : Pos} {elts : List Expr} {kk kc : Nat} (hg : Gl X "zip") (hm : X.mg "zip" = none) (ha : DA X [e, e2] f)
    (he : backTo pos (starEach [e, e2] X.env) = (false, eval e X.env) :: backTo pos (starEach [e2] X.env) := by rfl) (hpl : (backTo pos (starEach [e, e2] X.env)).any (·.1) = false := by rfl)
    (hall : (backToKw pos (keywordEach [⟨some "strict", .Constant (.bool true) kc cp, kp⟩] X.env)).all (·.1.isSome) = true := by rfl) (hkw : (backToKw pos (keywordEach [⟨some "strict", .Constant (.bool true) kc cp, kp⟩] X.env)).any (·.1.isNone) = false := by rfl)
    (hks : (backToKw pos (keywordEach [⟨some "strict", .Constant (.bool true) kc cp, kp⟩] X.env)).filterMap (·.1) = [Str.ofString "strict"] := by rfl) :
    DI X (.Tuple elts kk tpos) (.Call (.Name "zip" p) [e, e2] [⟨some "strict", .Constant (.bool true) kc cp, kp⟩] pos) (cIt (zipD true) f) := by
  refine ⟨fun pins s σ H Rr I h => ?_⟩
  obtain ⟨F, O, s0, items, s', R, hf, q⟩ := h
  obtain ⟨ds, h1, h2⟩ := cIt_inv hf
  refine wpAny_Call_Name_kw (ld_blt I hg hm PyProof.Rows.boot_zip (Zs.callWith_tyKw (thn (goA (pos := pos) ha I R h1) fun us s1 ⟨vs, H1, I1, rv, R1, S1, K1, ra⟩ => ?_) he hpl hall hkw))
  refine PyProof.Rows.kws_cons (wpAny_mono ((pe_bl (X := X) (b := true)).run pins s1 σ H1 (fun x H2 => x = .bl true ∧ H2 = H1) I1 ⟨rfl, rfl⟩) (fun kv s2 ⟨kx, H2, I2, rk, ek, eH⟩ => ?_) fun _ _ x => x)
  subst ek eH
  cases rk
  refine PyProof.Rows.kws_nil ?_
  rw [hks]
  unfold zipD at h2
  split at h2
  · rename_i d d2
    split at h2
    · rename_i ds es e0 e1
      split at h2
      · cases h2
      · rename_i hl
        cases h2
        cases ra with
        | cons r1 r2 =>
          cases r2 with
          | cons r2 r3 =>
            cases r3
            obtain ⟨k, a, xs, rfl, hx, rx⟩ := r1.seq fz_le e0
            obtain ⟨l, b, ys, rfl, hy, ry⟩ := r2.seq fz_le e1
            cases rv with
            | cons r rr =>
              cases rr with
              | cons r' rr =>
                cases rr
                cases r
                cases r'
                obtain ⟨its, _, hp, _, hlt⟩ := seqK I2 (hx H2 fz_le)
                obtain ⟨its2, _, hp2, _, hlt2⟩ := seqK I2 (hy H2 fz_le)
                refine Zs.zs_begins (begK k a its.toArray) (begK l b its2.toArray) hp hp2 fun h' hz hTI hTO hi1 hi2 hk => Zs.zs_iter hz ?_
                have I3 : Inv X pins σ H2 { s2 with heap := h' } := I2.kept (t' := s2.toks) hk
                refine ⟨s2.heap.objs.size + 4, [s2.heap.objs.size + 4, s2.heap.objs.size + 2, s2.heap.objs.size + 3, s2.heap.objs.size, s2.heap.objs.size + 1], _, Jz2 X.K true k l a b, H2, rfl, I3, turn_zs2 k l (sep_new hlt hlt2) (Nat.ne_of_lt hlt) (Ne.symm (ne_k hlt2 1)), ⟨hz, hTI, ⟨_, _, hTO⟩, itK_new hi1, itK_new hi2⟩, fp_new I2 (fun b hb => by
                  have e' : b = s2.heap.objs.size + 4 ∨ b = s2.heap.objs.size + 2 ∨ b = s2.heap.objs.size + 3 ∨ b = s2.heap.objs.size ∨ b = s2.heap.objs.size + 1 := by simpa using hb
                  rcases e' with z | z | z | z | z <;> rw [z]
                  · exact Nat.le_add_right _ _
                  · exact Nat.le_add_right _ _
                  · exact Nat.le_add_right _ _
                  · exact Nat.le_refl _
                  · exact Nat.le_add_right _ _), q _ H2 R1 S1 K1 (yl_z2 hx rx hy ry hl)⟩
    · cases h2
  · cases h2
end
end DL
set_option Elab.async false
set_option linter.all false
set_option maxRecDepth 100000
set_option maxHeartbeats 2000000
/-! DL14: methods that change nothing (index, count); a tuple times an int. -/
namespace DL
open PySem PySem.Spec L2
open PyProof.Rows hiding St
variable [Zm]
section
variable {X : Cx} {pos : Pos}
/-- a receiver whose type is known, with no dict of its own -/
def recv : D → Bool
  | .list _ => true
  | .tuple _ => Zm.z
  | .dict _ => true
  | .str _ => true
  | _ => false
theorem recv_ok {pins : List (Addr × Obj)} {s : Shared} {σ : St} {H : Hp} {O : List Addr} {x : V} {v : Value} {d : D} (I : Inv X pins σ H s) (r : Rp1 X.K O H x d) (rv : RelV x v) (hr : recv d = true) :
    s.TypeIs v (tyD d) ∧ ∀ a, v = .ref a → ∃ ob, s.heap.get? a = some ob ∧ ob.dict = none := by
  cases d with
  | list ds =>
    obtain ⟨a, xs, rfl, h, _⟩ := r.list_inv
    exact tyV_is I rv (.inl ⟨rfl, xs, SqL.of h⟩)
  | tuple ds =>
    obtain ⟨a, xs, rfl, h, _⟩ := r.tup_inv
    have hz : Zm.z = true := hr
    rw [hz] at h
    obtain ⟨o, e, hd⟩ := h.le
    cases rv
    obtain ⟨e1, _, _, _, ⟨o2, e2, hc, _⟩⟩ := I.hok a _ e
    rw [e1] at e2
    cases e2
    refine ⟨⟨_, e1, hc⟩, fun b eb => ?_⟩
    cases eb
    exact ⟨o, e1, hd⟩
  | dict kds =>
    obtain ⟨a, rfl, h⟩ := r.dict_inv
    cases h with
    | k hd _ => exact tyV_is I rv (.inr (.inr (.inl ⟨rfl, .inl ⟨_, hd⟩⟩)))
    | t hd _ _ => exact tyV_is I rv (.inr (.inr (.inl ⟨rfl, .inr ⟨_, hd⟩⟩)))
  | str y =>
    obtain rfl := r.str_inv
    exact tyV_is I rv rfl
  | none => cases hr
  | bool _ => cases hr
  | int _ => cases hr
/-- a method that changes nothing -/
structure OpM (X : Cx) (name : Str) (r : D → List D → Option D) : Prop where
  run : ∀ (d : D) (ds : List D) (res : D), r d ds = some res → ∃ id : String, PlainAttrs (tyD d) ∧ Slot (tyD d) name id ∧ typeOf (.builtin id) = pure (.type "method_descriptor") ∧ recv d = true ∧
    ∀ (pins : List (Addr × Obj)) (s : Shared) (σ : St) (H : Hp) (O : List Addr) (x : V) (v : Value) (xs : List V) (us : List Value) (Q : VK), Inv X pins σ H s → Dom O H → RelV x v → Vals xs us → Rp1 X.K O H x d → Rp1A X.K O H xs ds → ValPost X.K O H Q res →
      wpAny (model X.prog X.w) X.A (call (.builtin id) (v :: us)) (EP X pins σ Q) X.xe s
def rM (r : D → List D → Option D) (t : String) (d : D) (ds : List D) : Option D := if tyD d = t then r d ds else none
def cMet (r : D → List D → Option D) (o : M Od) (f : M (List Od)) : M D := bnd o fun p => bnd (rdM p) fun d1 => bnd f fun ps => bnd (rdM p) fun d => bnd (rdsM ps) fun ds => lft (if recv d1 = true then rM r (tyD d1) d ds else none)
theorem cMet_inv {r : D → List D → Option D} {o : M Od} {f : M (List Od)} {s s' : S} {z : D} (h : cMet r o f s = some (z, s')) : ∃ p s1 d1 ps d ds, o s = some (p, s1) ∧ rd s1.1 p = some d1 ∧ f s1 = some (ps, s') ∧ rd s'.1 p = some d ∧ rdAll ps s'.1 = some ds ∧ recv d1 = true ∧ tyD d = tyD d1 ∧ r d ds = some z := by
  obtain ⟨p, s1, h1, hf⟩ := bnd_inv h
  obtain ⟨d1, s2, h2, hf⟩ := bnd_inv hf
  obtain ⟨_, e1, e2⟩ := rdM_inv h2
  cases e2
  obtain ⟨ps, s3, h3, hf⟩ := bnd_inv hf
  obtain ⟨d, s4, h4, hf⟩ := bnd_inv hf
  obtain ⟨_, e3, e4⟩ := rdM_inv h4
  cases e4
  obtain ⟨ds, s5, h5, hf⟩ := bnd_inv hf
  obtain ⟨_, e5, e6⟩ := lft_inv h5
  cases e6
  obtain ⟨_, e7, e8⟩ := lft_inv hf
  cases e8
  split at e7
  · rename_i hr
    unfold rM at e7
    split at e7
    · rename_i ht
      exact ⟨p, s1, _, ps, _, _, h1, e1, h3, e3, e5, hr, ht, e7⟩
    · cases e7
  · cases e7
theorem de_met {name : Str} {r : D → List D → Option D} {ob e : Expr} {es : List Expr} {apos : Pos} {o : M Od} {f : M (List Od)} (hm : OpM X name r) (ho : DO X ob o) (ha : DOs X (e :: es) f)
    (hbase : attributeBase ob name X.env (eval ob X.env) = eval ob X.env := by rfl)
    (hfew : ((backTo pos (starEach (e :: es) X.env)).all (fun x => !x.1) && (backToKw pos (keywordEach [] X.env)).all (fun x => x.1.isSome) && decide ((e :: es).length + ([] : List Keyword).length + (if ([] : List Keyword).isEmpty then 0 else 1) < 30)) = true := by rfl)
    (hline : (apos.endLine == pos.line) = true := by rfl) (hs : starEach (e :: es) X.env = (false, eval e X.env) :: starEach es X.env := by rfl) (hplain : (backTo pos (starEach es X.env)).any (·.1) = false := by rfl) :
    DE X (.Call (.Attribute ob name apos) (e :: es) [] pos) (cMet r o f) := by
  refine ⟨fun pins sh σ H Q I h => ?_⟩
  obtain ⟨F, O, s, z, s', R, hf, q⟩ := h
  obtain ⟨p, s1, d1, ps, d, ds, h1, e1, h2, e2, e3, hr1, ht, hr⟩ := cMet_inv hf
  obtain ⟨id, pa, slot, hty, hrd, run⟩ := hm.run d ds z hr
  refine wpAny_Call_method_late hbase hfew hline rfl (thn (go ho I R h1) fun v sh1 ⟨x, H1, I1, rx, R1, S1, K1, o1⟩ => ?_)
  obtain ⟨t1, t2⟩ := recv_ok I1 (OdOk.rd R1 o1 e1) rx hr1
  refine ⟨tyD d, id, pa, slot, hty, by rw [ht]; exact t1, t2, ?_⟩
  have hA := goA (pos := pos) ha I1 R1 h2
  rw [hs] at hA ⊢
  refine Calls.callWith_builtin (by show (false || (backTo pos (starEach es X.env)).any (·.1)) = false; rw [hplain] <;> rfl) (Calls.evalArgs_plain ?_)
  refine thn hA fun us s2 ⟨xs, H2, I2, r2, R2, S2, K2, o2⟩ => ?_
  refine run pins s2 σ H2 O x v xs us Q I2 R2.dom rx r2 (OdOk.rd R2 (OdOk.mono o1 S2) e2) (OdsOk.rd R2 o2 e3) fun w H3 S3 r3 => ?_
  exact q w H3 (R2.ext S3) (Same.trans S1 (Same.trans S2 (fz_same S3))) (K1.trans K2) r3
/-! index, count -/
def idxN (d : D) (ds : List D) : Option D := match ds with
  | [y] => if recv d && shp d && shp y then match d with
    | .list xs => (SeqAt.dataPlace xs y).map fun (j : Nat) => PyData.int (j : Nat)
    | .tuple xs => (SeqAt.dataPlace xs y).map fun (j : Nat) => PyData.int (j : Nat)
    | _ => none
    else none
  | _ => none
def cntN (d : D) (ds : List D) : Option D := match ds with
  | [y] => if recv d && shp d && shp y then match d with
    | .list xs => some (.int ((xs.countP fun z => PyData.eqv z y : Nat) : Int))
    | .tuple xs => some (.int ((xs.countP fun z => PyData.eqv z y : Nat) : Int))
    | _ => none
    else none
  | _ => none
theorem and3 {a b c : Bool} (h : (a && b && c) = true) : a = true ∧ b = true ∧ c = true := by
  rw [Bool.and_eq_true, Bool.and_eq_true] at h
  exact ⟨h.1.1, h.1.2, h.2⟩
theorem opM_count (hu : X.A.units + 65 < cLine) : OpM X "count" cntN := ⟨fun d ds res hr => by
  unfold cntN at hr
  split at hr
  · rename_i y
    split at hr
    · rename_i hc
      obtain ⟨c1, c2, c3⟩ := and3 hc
      split at hr
      · rename_i zs
        cases hr
        refine ⟨"list.count", PySem.F.plainAttrs_list, PySem.F.slot_list_count, PySem.F.type_list_count, c1, fun pins s σ H O x v xs us Q I dm rv rus r1 r2 q => ?_⟩
        obtain ⟨w, rfl, rw1⟩ := r2.one
        obtain ⟨u, rfl, ru⟩ := vals1 rus
        obtain ⟨bs, q2⟩ := Dp.reads I y w u (rw1.dpS c3) ru
        obtain ⟨a, ys, rfl, ha, ra⟩ := r1.list_inv
        cases rv
        obtain ⟨its, rit, pl, _⟩ := I.list (SqL.of ha)
        have hpl : PyData.plainAll zs = true := by simpa [PyData.plain] using shp_plain c2
        obtain ⟨as, q1⟩ := Dp.readsAll I zs ys its (ra.dp fz_le hpl) rit
        exact SeqAt.count_list_data pl.isList (vs := its.toArray) q1 q2 hpl (shp_plain c3) (room_in c3 hu) ⟨.int _, H, I.tok _, ⟨_, rfl⟩, val_at q (.int _)⟩
      · rename_i zs
        cases hr
        refine ⟨"tuple.count", PySem.F.plainAttrs_tuple, PySem.F.slot_tuple_count, PySem.F.type_tuple_count, c1, fun pins s σ H O x v xs us Q I dm rv rus r1 r2 q => ?_⟩
        obtain ⟨w, rfl, rw1⟩ := r2.one
        obtain ⟨u, rfl, ru⟩ := vals1 rus
        obtain ⟨bs, q2⟩ := Dp.reads I y w u (rw1.dpS c3) ru
        obtain ⟨a, ys, rfl, ha, ra⟩ := r1.tup_inv
        cases rv
        obtain ⟨its, rit, pl, _⟩ := I.tuple ha.le.sq
        have hpl : PyData.plainAll zs = true := by simpa [PyData.plain] using shp_plain c2
        obtain ⟨as, q1⟩ := Dp.readsAll I zs ys its (ra.dp fz_le hpl) rit
        exact SeqAt.count_tuple_data (vs := its.toArray) pl q1 q2 hpl (shp_plain c3) (room_in c3 hu) ⟨.int _, H, I.tok _, ⟨_, rfl⟩, val_at q (.int _)⟩
      · cases hr
    · cases hr
  · cases hr⟩
theorem opM_index (hu : X.A.units + 65 < cLine) : OpM X "index" idxN := ⟨fun d ds res hr => by
  unfold idxN at hr
  split at hr
  · rename_i y
    split at hr
    · rename_i hc
      obtain ⟨c1, c2, c3⟩ := and3 hc
      split at hr
      · rename_i zs
        cases ej : SeqAt.dataPlace zs y with
        | none => rw [ej] at hr; cases hr
        | some j =>
          rw [ej] at hr
          cases hr
          refine ⟨"list.index", PySem.F.plainAttrs_list, PySem.F.slot_list_index, PySem.F.type_list_index, c1, fun pins s σ H O x v xs us Q I dm rv rus r1 r2 q => ?_⟩
          obtain ⟨w, rfl, rw1⟩ := r2.one
          obtain ⟨u, rfl, ru⟩ := vals1 rus
          obtain ⟨bs, q2⟩ := Dp.reads I y w u (rw1.dpS c3) ru
          obtain ⟨a, ys, rfl, ha, ra⟩ := r1.list_inv
          cases rv
          obtain ⟨its, rit, pl, hz⟩ := I.list (SqL.of ha)
          have hpl : PyData.plainAll zs = true := by simpa [PyData.plain] using shp_plain c2
          obtain ⟨as, q1⟩ := Dp.readsAll I zs ys its (ra.dp fz_le hpl) rit
          obtain ⟨hj, h1, h2⟩ := SeqAt.hit_at (vs := its.toArray) q1 hpl ej
          obtain ⟨⟨cls, dd, data, sls⟩, n, h3, hc3, hdn, hdt⟩ := pl
          simp only at hc3 hdt
          subst hc3 hdt
          have hl := rit.length
          have hsz := sizeLine_eq
          exact call_meets PySem.F.slot_list_index ⟨_, h3, rfl⟩ PySem.F.entry_list_index (PySem.F.args_list_index_2 _ _) (SeqAt.list_indexAt a its.toArray n dd sls u _ j hj (by simp at hj; omega) h1 h2)
            ⟨h3, SeqAt.items_plain (vs := its.toArray) q1 q2 hpl (shp_plain c3) (room_in c3 hu), ⟨.int _, H, I.tok _, ⟨_, rfl⟩, val_at q (.int _)⟩⟩
      · rename_i zs
        cases ej : SeqAt.dataPlace zs y with
        | none => rw [ej] at hr; cases hr
        | some j =>
          rw [ej] at hr
          cases hr
          refine ⟨"tuple.index", PySem.F.plainAttrs_tuple, PySem.F.slot_tuple_index, PySem.F.type_tuple_index, c1, fun pins s σ H O x v xs us Q I dm rv rus r1 r2 q => ?_⟩
          obtain ⟨w, rfl, rw1⟩ := r2.one
          obtain ⟨u, rfl, ru⟩ := vals1 rus
          obtain ⟨bs, q2⟩ := Dp.reads I y w u (rw1.dpS c3) ru
          obtain ⟨a, ys, rfl, ha, ra⟩ := r1.tup_inv
          cases rv
          obtain ⟨its, rit, pl, hz⟩ := I.tuple ha.le.sq
          have hpl : PyData.plainAll zs = true := by simpa [PyData.plain] using shp_plain c2
          obtain ⟨as, q1⟩ := Dp.readsAll I zs ys its (ra.dp fz_le hpl) rit
          obtain ⟨hj, h1, h2⟩ := SeqAt.hit_at (vs := its.toArray) q1 hpl ej
          obtain ⟨⟨cls, dd, data, sls⟩, h3, hc3, n, hdt⟩ := id pl
          simp only at hc3 hdt
          subst hc3 hdt
          exact call_meets PySem.F.slot_tuple_index ⟨_, h3, rfl⟩ PySem.F.entry_tuple_index (PySem.F.args_tuple_index_2 _ _) (TI.tuple_indexAt a its.toArray n dd sls u _ j hj h1 h2)
            ⟨h3, SeqAt.items_plain (vs := its.toArray) q1 q2 hpl (shp_plain c3) (room_in c3 hu), ⟨.int _, H, I.tok _, ⟨_, rfl⟩, val_at q (.int _)⟩⟩
      · cases hr
    · cases hr
  · cases hr⟩
end
end DL
set_option Elab.async false
set_option linter.all false
set_option maxRecDepth 100000
set_option maxHeartbeats 4000000
/-! DL15: a tuple times an int; all of *. -/
namespace DL
open PySem PySem.Spec L2
open PyProof.Rows hiding St
open PySem.AutoSeq1 (wpAny_loadPart')
theorem tm_same (l : Addr) (items : Array Value) (n : Nat) (dd : Option Addr) (sl : Array (Option Value)) (x : Int) (u : Tok) (c0 : (decide (x < -(2 ^ 63)) || decide (x ≥ 2 ^ 63)) = false) (c1 : (items.isEmpty || x == 1) = true) :
    Meets (Builtin.«tuple.__mul__» ⟨[.ref l, .int x u], []⟩) (fun _ R s => s.heap.get? l = some { cls := .type "tuple", dict := dd, data := .seq items n, slots := sl } ∧ R (.ok (.ret (Value.ref l))) s) :=
  .of_wp fun prog w A R s h => by
    obtain ⟨hp, g, d, tk, os⟩ := s
    obtain ⟨hl, h⟩ := h
    have f1 := AutoSeq1.idx_int
    wp_walk using wpAny_loadPart' hl
    refine wpAny_ite_false (decide_eq_false (by rw [c0]; exact Bool.false_ne_true)) ?_
    wp_walk using wpAny_loadPart' hl
    all_goals first
      | exact ⟨_, rfl, h⟩
      | (refine wpAny_ite_true (decide_eq_true c1) ?_; wp_walk using wpAny_loadPart' hl; exact ⟨_, rfl, h⟩)
theorem tm_none (l : Addr) (items : Array Value) (n : Nat) (dd : Option Addr) (sl : Array (Option Value)) (x : Int) (u : Tok) (c0 : (decide (x < -(2 ^ 63)) || decide (x ≥ 2 ^ 63)) = false) (c1 : (items.isEmpty || x == 1) = false) (c2 : (decide (x ≤ 0) || items.isEmpty) = true) :
    Meets (Builtin.«tuple.__mul__» ⟨[.ref l, .int x u], []⟩) (fun _ R s => s.heap.get? l = some { cls := .type "tuple", dict := dd, data := .seq items n, slots := sl } ∧ R (.ok (.ret (Value.ref s.heap.objs.size))) { s with heap := s.heap.push { cls := Value.type "tuple", data := Data.seq #[] }, toks := s.toks }) :=
  .of_wp fun prog w A R s h => by
    obtain ⟨hp, g, d, tk, os⟩ := s
    obtain ⟨hl, h⟩ := h
    have f1 := AutoSeq1.idx_int
    wp_walk using wpAny_loadPart' hl
    refine wpAny_ite_false (decide_eq_false (by rw [c0]; exact Bool.false_ne_true)) ?_
    wp_walk using wpAny_loadPart' hl
    exact ⟨_, rfl, h⟩
variable [Zm]
section
variable {X : Cx} {pos : Pos}
/-- t * k -/
def rRepZ (K : PySem.W.Frag) : R2 := fun x y H Q => ∃ l k xs, x = .ref l ∧ y = .int k ∧ SqT K H l xs ∧ -(2 ^ 62) ≤ k ∧ k < 2 ^ 62 ∧ xs.length * k.toNat ≤ sizeLine ∧ ((xs = [] ∨ k = 1) → Q (.ref l) H) ∧
  (¬ (xs = [] ∨ k = 1) → ∀ (p : Addr) (ob : Obj), ob.dict = none → H p = none → Q (.ref p) (upd H p (tupO Zm.z ob (List.replicate k.toNat xs).flatten)))
theorem op_repZ : OpR X (binaryOp .Mult) (rRepZ X.K) := by
  intro pins s σ H x y v u Q I rx ry h
  obtain ⟨l, k, xs, rfl, rfl, hT, k0, k1, hz, q1, q2⟩ := h
  cases rx
  obtain ⟨t, rfl⟩ := ry
  obtain ⟨its, r, ⟨⟨cls, dd, data, sl⟩, ho, hc, n, hd⟩, hs⟩ := I.tuple hT
  simp only at hc hd
  subst hc hd
  have hle : its.length = xs.length := r.length.symm
  have hem : its.toArray.isEmpty = decide (xs = []) := by
    cases r with
    | nil => rfl
    | cons _ _ => rfl
  have hsz0 : its.toArray.size = xs.length := by rw [List.size_toArray, hle]
  have c0 : (decide (k < -(2 ^ 63)) || decide (k ≥ 2 ^ 63)) = false := by
    rw [decide_eq_false (by omega), decide_eq_false (by omega)] <;> rfl
  by_cases hs1 : xs = [] ∨ k = 1
  · have c1 : (its.toArray.isEmpty || k == 1) = true := by
      rw [hem]
      rcases hs1 with z | z
      · rw [decide_eq_true z, Bool.true_or]
      · rw [z]; simp
    refine wpAny_binaryOp_repeat_ref (T := "tuple") (U := "int") (by decide) ⟨_, ho, rfl⟩ (fun s' => typeIs_int s' k t) noFill_tuple_mul F.fills_int_mul F.slot_int_rmul repeat_tuple F.slot_int_index.lookup
      (call_meets F.slot_int_rmul (typeIs_int s k t) F.entry_int_rmul (F.args_int_rmul_2 _ _) (int_rmul_tuple k t l its.toArray n dd sl) ⟨ho, rfl, ⟨_, ho, rfl⟩, call_meets F.slot_tuple_mul ⟨_, ho, rfl⟩ F.entry_tuple_mul (F.args_tuple_mul_2 _ _) (tm_same l its.toArray n dd sl k t c0 c1) ⟨ho, ?_⟩⟩)
    exact ⟨.ref l, H, I, rfl, q1 hs1⟩
  · have hx : ¬ xs = [] := fun z => hs1 (.inl z)
    have hk : k ≠ 1 := fun z => hs1 (.inr z)
    have c1 : (its.toArray.isEmpty || k == 1) = false := by rw [hem, decide_eq_false hx, Bool.false_or]; exact beq_eq_false_iff_ne.mpr hk
    by_cases hk0 : k ≤ 0
    · have c2 : (decide (k ≤ 0) || its.toArray.isEmpty) = true := by rw [decide_eq_true hk0, Bool.true_or]
      refine wpAny_binaryOp_repeat_ref (T := "tuple") (U := "int") (by decide) ⟨_, ho, rfl⟩ (fun s' => typeIs_int s' k t) noFill_tuple_mul F.fills_int_mul F.slot_int_rmul repeat_tuple F.slot_int_index.lookup
        (call_meets F.slot_int_rmul (typeIs_int s k t) F.entry_int_rmul (F.args_int_rmul_2 _ _) (int_rmul_tuple k t l its.toArray n dd sl) ⟨ho, rfl, ⟨_, ho, rfl⟩, call_meets F.slot_tuple_mul ⟨_, ho, rfl⟩ F.entry_tuple_mul (F.args_tuple_mul_2 _ _) (tm_none l its.toArray n dd sl k t c0 c1 c2) ⟨ho, ?_⟩⟩)
      have e0 : (List.replicate k.toNat xs).flatten = [] := by rw [show k.toNat = 0 by omega]; rfl
      refine ⟨.ref s.heap.objs.size, _, I.laid (t' := s.toks) (o := tupO Zm.z _ (List.replicate k.toNat xs).flatten) (fun b ob q => Heap.get?_push_of_some _ q) (Nat.le_refl _) (tupO_ok (its := []) (Heap.get?_push_size _ rfl) rfl rfl (by rw [e0]; exact .nil) (by rw [e0]; exact Nat.zero_le _)), rfl, q2 hs1 _ _ rfl (I.hok.fresh (Nat.le_refl _))⟩
    · have c2 : (decide (k ≤ 0) || its.toArray.isEmpty) = false := by rw [hem, decide_eq_false hx, Bool.or_false]; exact decide_eq_false hk0
      have hkn : ((k.toNat : Nat) : Int) = k := Int.toNat_of_nonneg (by omega)
      have hm : ((its.toArray.size : Nat) : Int) * k ≤ (sizeLine : Int) := by
        rw [hsz0, ← hkn, ← Int.natCast_mul]
        exact Int.ofNat_le.mpr hz
      have hl2 := sizeLine_eq
      have flen : (List.replicate k.toNat its).flatten.length ≤ sizeLine := by rw [PyProof.Rows.lm_len_rep_flat, hle, Nat.mul_comm]; exact hz
      have c4 : Builtin.Tuple.tupleTooMany (((its.toArray.size : Nat) : Int) * k) = false := by
        unfold Builtin.Tuple.tupleTooMany
        exact decide_eq_false (by omega)
      refine wpAny_binaryOp_repeat_ref (T := "tuple") (U := "int") (by decide) ⟨_, ho, rfl⟩ (fun s' => typeIs_int s' k t) noFill_tuple_mul F.fills_int_mul F.slot_int_rmul repeat_tuple F.slot_int_index.lookup
        (call_meets F.slot_int_rmul (typeIs_int s k t) F.entry_int_rmul (F.args_int_rmul_2 _ _) (int_rmul_tuple k t l its.toArray n dd sl) ⟨ho, rfl, ⟨_, ho, rfl⟩, call_meets F.slot_tuple_mul ⟨_, ho, rfl⟩ F.entry_tuple_mul (F.args_tuple_mul_2 _ _) (tuple_mulW l its.toArray n dd sl k t c0 c1 c2 (by omega) c4 (by rw [size_rep, List.size_toArray]; exact flen)) ⟨ho, ?_⟩⟩)
      rw [size_rep]
      exact ⟨.ref s.heap.objs.size, _, I.laid (t' := s.toks) (o := tupO Zm.z _ (List.replicate k.toNat xs).flatten) (fun b ob q => Heap.get?_push_of_some _ q) (Nat.le_refl _) (tupO_ok (Heap.get?_push_size _ rfl) rfl rfl (r.rep k.toNat) (by rw [PyProof.Rows.lm_len_rep_flat, Nat.mul_comm]; exact hz)), rfl, q2 hs1 _ _ rfl (I.hok.fresh (Nat.le_refl _))⟩
def repT : D → D → Option D
  | .tuple ds, .int k => if -(2 ^ 62) ≤ k ∧ k < 2 ^ 62 ∧ ds.length * k.toNat ≤ line then some (.tuple (List.replicate k.toNat ds).flatten) else none
  | _, _ => none
theorem rep_nil (n : Nat) : (List.replicate n ([] : List D)).flatten = [] := by induction n with
  | zero => rfl
  | succ n ih => rw [List.replicate_succ, List.flatten_cons, ih]; rfl
theorem op2_repT : Op2 X (binaryOp .Mult) repT := op2_of op_repZ fun H O x y d e res Q dm rx ry hr q => by
  unfold repT at hr
  split at hr
  · split at hr
    · rename_i ds k z
      cases hr
      obtain ⟨a, xs, e1, ha, ra⟩ := rx.tup_inv
      subst e1
      refine ⟨a, k, xs, rfl, ry.int_inv, ha.le.sq, z.1, z.2.1, by rw [ra.len, ← line_eq]; exact z.2.2, fun h => ?_, fun h => val_tup dm q (ra.rep _)⟩
      rcases h with h | h
      · subst h
        cases ra
        rw [rep_nil] at q
        exact val_at q (.tup ha .nil)
      · subst h
        have e2 : (List.replicate (1 : Int).toNat ds).flatten = ds := by show (List.replicate 1 ds).flatten = ds; simp
        rw [e2] at q
        exact val_at q (.tup ha ra)
    · cases hr
  · cases hr
/-- all of * -/
def mulD : D → D → Option D
  | .int i, .int j => mulI (.int i) (.int j)
  | .tuple ds, .int k => repT (.tuple ds) (.int k)
  | .list ds, .int k => (repL (.list ds) (.int k)).map PyData.list
  | _, _ => none
theorem op2_mul : Op2 X (binaryOp .Mult) mulD := fun pins s σ H O x y v u d e res Q I dm rv ru rx ry hr q => by
  unfold mulD at hr
  split at hr
  · exact op2_mulI pins s σ H O x y v u _ _ res Q I dm rv ru rx ry hr q
  · exact op2_repT pins s σ H O x y v u _ _ res Q I dm rv ru rx ry hr q
  · exact fr2_repL.op pins s σ H O x y v u _ _ res Q I dm rv ru rx ry hr q
  · cases hr
end
end DL
set_option Elab.async false
set_option linter.all false
set_option maxRecDepth 100000
set_option maxHeartbeats 2000000
/-! DL16: strict zip of three; list(range(..)), tuple(range(..)); lists as targets' sources. -/
namespace DL
open PySem PySem.Spec L2
open PyProof.Rows hiding St
variable [Zm]
def Jz3 (K : PySem.W.Frag) (k l m : Bool) (a b c : Addr) : It :=
  ⟨fun i H => ∃ (xs ys zs : List V) (x y z : V), SqK K H k a xs ∧ SqK K H l b ys ∧ SqK K H m c zs ∧ xs[i]? = some x ∧ ys[i]? = some y ∧ zs[i]? = some z ∧ xs.length = ys.length ∧ xs.length = zs.length,
    fun i H v H' => ∃ (T : Addr) (ob : Obj) (x y z : V), v = .ref T ∧ ob.dict = none ∧ H T = none ∧ H' = upd H T (tupO Zm.z ob [x, y, z]) ∧ (∀ xs, SqK K H k a xs → xs[i]? = some x) ∧ (∀ ys, SqK K H l b ys → ys[i]? = some y) ∧ ∀ zs, SqK K H m c zs → zs[i]? = some z,
    fun i H => ∃ xs ys zs : List V, SqK K H k a xs ∧ SqK K H l b ys ∧ SqK K H m c zs ∧ xs.length = i ∧ ys.length = i ∧ zs.length = i⟩
theorem turn_zs3 {P : Program} {w : World} {K : PySem.W.Frag} {elts : List Expr} {kk : Nat} {tpos : Pos} (k l m : Bool) {z TI TO i1 i2 i3 a b c : Addr} (S : ZipSep3 z TI TO i1 i2 i3 [i1, a] [i2, b] [i3, c]) (ha : a ≠ i1) (hb : b ≠ i2) (hc3 : c ≠ i3) :
    Turn P w K (.Tuple elts kk tpos) (Jz3 K k l m a b c) [z, TI, TO, i1, i2, i3] z (fun i h => Zs.IsZs h z TI TO .none ∧ IsTupOf3 h TI (.ref i1) (.ref i2) (.ref i3) ∧ (∃ x y u, IsTupOf3 h TO x y u) ∧ itK k h i1 a i ∧ itK l h i2 b i ∧ itK m h i3 c i) := by
  refine turn_of (wr := [z, TO, i1, i2, i3]) (by simp) (fun b hb => by simp at hb ⊢; rcases hb with h | h | h | h | h <;> simp [h]) (fun i h st b hb => ?_) (fun i h h' st q => ?_) (fun A i s Q E st h => Zs.zs_iter st.1 h) ?_ ?_
  · obtain ⟨hz, hTI, ⟨x, y, u, hTO⟩, h1, h2, h3⟩ := st
    have e' : b = z ∨ b = TI ∨ b = TO ∨ b = i1 ∨ b = i2 ∨ b = i3 := by simpa using hb
    rcases e' with q | q | q | q | q | q
    · rw [q]; exact ⟨_, hz, fun v q => nomatch q⟩
    · rw [q]; exact ⟨_, hTI, fun v q => nomatch q⟩
    · rw [q]; exact ⟨_, hTO, fun v q => nomatch q⟩
    · rw [q]; exact itK_obj h1
    · rw [q]; exact itK_obj h2
    · rw [q]; exact itK_obj h3
  · obtain ⟨hz, hTI, ⟨x, y, u, hTO⟩, h1, h2, h3⟩ := st
    exact ⟨q z (by simp) _ hz, q TI (by simp) _ hTI, ⟨x, y, u, q TO (by simp) _ hTO⟩, itK_at h1 fun o z => q i1 (by simp) o z, itK_at h2 fun o z => q i2 (by simp) o z, itK_at h3 fun o z => q i3 (by simp) o z⟩
  · intro X hP hw hK hc i pins s σ H I hf st hg
    subst hP hw hK
    obtain ⟨xs, ys, us, x, y, u, hx0, hy0, hu0, hx, hy, hu, e12, e13⟩ := hg
    obtain ⟨its, rv, hp, _, _⟩ := seqK I hx0
    obtain ⟨its2, rv2, hp2, _, _⟩ := seqK I hy0
    obtain ⟨its3, rv3, hp3, _, _⟩ := seqK I hu0
    have l1 := rv.length
    have l2 := rv2.length
    have l3 := rv3.length
    have m1 := (List.getElem?_eq_some_iff.mp hx).1
    obtain ⟨hz, hTI, hTO, h1, h2, h3⟩ := st
    have D2 := drawK (prog := X.prog) (w := X.w) (A := X.A.in1) (I.ok.hd hc) l i2 b hb its2.toArray
    have D3 := drawK (prog := X.prog) (w := X.w) (A := X.A.in1) (I.ok.hd hc) m i3 c hc3 its3.toArray
    rw [show its2.toArray.size = its.toArray.size by rw [List.size_toArray, List.size_toArray]; omega] at D2
    rw [show its3.toArray.size = its.toArray.size by rw [List.size_toArray, List.size_toArray]; omega] at D3
    refine ⟨_, _, _, _, Zs.walkS3 (A := X.A) (I.ok.hd hc) S (drawK (A := X.A.in1) (I.ok.hd hc) k i1 a ha its.toArray) D2 D3, ?_, ⟨hz, hTI, hTO, ⟨h1, hp⟩, ⟨h2, hp2⟩, ⟨h3, hp3⟩⟩, fun h q => ⟨q.1, q.2.1, q.2.2.1, q.2.2.2.1.1, q.2.2.2.2.1.1, q.2.2.2.2.2.1⟩, fun vals hv => ?_⟩
    · rw [List.size_toArray]; omega
    · obtain ⟨v1, v2, v3, w1, w2, w3, rfl⟩ := hv
      refine ⟨[x, y, u], .cons (get_rel rv hx w1) (.cons (get_rel rv2 hy w2) (.cons (get_rel rv3 hu w3) .nil)), by show 3 ≤ sizeLine; decide, fun T ob hob hT => ⟨T, ob, x, y, u, rfl, hob, hT, rfl, fun zs h => ?_, fun zs h => ?_, fun zs h => ?_⟩⟩
      · rw [injK I h hx0]; exact hx
      · rw [injK I h hy0]; exact hy
      · rw [injK I h hu0]; exact hu
  · intro X hP hw hK hc i pins s σ H I hf st hg
    subst hP hw hK
    obtain ⟨xs, ys, us, hx0, hy0, hu0, e1, e2, e3⟩ := hg
    obtain ⟨its, rv, hp, _, _⟩ := seqK I hx0
    obtain ⟨its2, rv2, hp2, _, _⟩ := seqK I hy0
    obtain ⟨its3, rv3, hp3, _, _⟩ := seqK I hu0
    have l1 := rv.length
    have l2 := rv2.length
    have l3 := rv3.length
    obtain ⟨hz, hTI, hTO, h1, h2, h3⟩ := st
    have D1 := drawK (prog := X.prog) (w := X.w) (A := X.A.in1) (I.ok.hd hc) k i1 a ha its.toArray
    have D2 := drawK (prog := X.prog) (w := X.w) (A := X.A.in1) (I.ok.hd hc) l i2 b hb its2.toArray
    have D3 := drawK (prog := X.prog) (w := X.w) (A := X.A.in1) (I.ok.hd hc) m i3 c hc3 its3.toArray
    rw [show its.toArray.size = i by rw [List.size_toArray]; omega] at D1
    rw [show its2.toArray.size = i by rw [List.size_toArray]; omega] at D2
    rw [show its3.toArray.size = i by rw [List.size_toArray]; omega] at D3
    exact ⟨_, _, _, Zs.walkS3 (A := X.A) (I.ok.hd hc) S D1 D2 D3, ⟨hz, hTI, hTO, ⟨h1, hp⟩, ⟨h2, hp2⟩, ⟨h3, hp3⟩⟩⟩
def zip3L : List D → List D → List D → List D
  | x :: xs, y :: ys, z :: zs => .tuple [x, y, z] :: zip3L xs ys zs
  | _, _, _ => []
theorem zip3L_get : ∀ {xs ys zs : List D} {i : Nat} {d : D}, (zip3L xs ys zs)[i]? = some d → ∃ e f g, xs[i]? = some e ∧ ys[i]? = some f ∧ zs[i]? = some g ∧ d = .tuple [e, f, g]
  | x :: xs, y :: ys, z :: zs, 0, d, h => by
    simp only [zip3L, List.getElem?_cons_zero] at h
    cases h
    exact ⟨x, y, z, rfl, rfl, rfl, rfl⟩
  | x :: xs, y :: ys, z :: zs, i + 1, d, h => by
    simp only [zip3L, List.getElem?_cons_succ] at h
    obtain ⟨e, f, g, h1, h2, h3, h4⟩ := zip3L_get h
    exact ⟨e, f, g, by simpa using h1, by simpa using h2, by simpa using h3, h4⟩
  | [], _, _, _, _, h => by simp [zip3L] at h
  | _ :: _, [], _, _, _, h => by simp [zip3L] at h
  | _ :: _, _ :: _, [], _, _, h => by simp [zip3L] at h
theorem zip3L_len : ∀ {xs ys zs : List D}, xs.length = ys.length → xs.length = zs.length → (zip3L xs ys zs).length = xs.length
  | [], _, _, _, _ => by simp [zip3L]
  | x :: xs, [], _, h, _ => by simp at h
  | x :: xs, y :: ys, [], _, h => by simp at h
  | x :: xs, y :: ys, z :: zs, h1, h2 => by simp [zip3L, zip3L_len (xs := xs) (ys := ys) (zs := zs) (by simpa using h1) (by simpa using h2)]
def zip3D : List D → Option (List D)
  | [d, e, f] => match seqOf d, seqOf e, seqOf f with
    | some xs, some ys, some zs => if xs.length = ys.length ∧ xs.length = zs.length then some (zip3L xs ys zs) else none
    | _, _, _ => none
  | _ => none
theorem yl_zs3 {K : PySem.W.Frag} {O : List Addr} {H1 : Hp} {k l m : Bool} {a b c : Addr} {xs ys us : List V} {ds es gs : List D} (hs : ∀ H' : Hp, Same (fz O H1) H' → SqK K H' k a xs) (r : RpA K (fz O H1) xs ds) (hs2 : ∀ H' : Hp, Same (fz O H1) H' → SqK K H' l b ys) (r2 : RpA K (fz O H1) ys es)
    (hs3 : ∀ H' : Hp, Same (fz O H1) H' → SqK K H' m c us) (r3 : RpA K (fz O H1) us gs) (hl : ds.length = es.length ∧ ds.length = gs.length) : Yl K O H1 (Jz3 K k l m a b c) (zip3L ds es gs) := fun O' H S dm => by
  have n1 := r.len
  have n2 := r2.len
  have n3 := r3.len
  have hS := fzH S
  refine ⟨fun i d hi => ?_, ⟨xs, ys, us, hs H hS, hs2 H hS, hs3 H hS, by rw [zip3L_len hl.1 hl.2]; omega, by rw [zip3L_len hl.1 hl.2]; omega, by rw [zip3L_len hl.1 hl.2]; omega⟩⟩
  obtain ⟨e, f, g, he, hf, hg, rfl⟩ := zip3L_get hi
  obtain ⟨x, hx, rx⟩ := r.get he
  obtain ⟨y, hy, ry⟩ := r2.get hf
  obtain ⟨u, hu, ru⟩ := r3.get hg
  refine ⟨⟨xs, ys, us, x, y, u, hs H hS, hs2 H hS, hs3 H hS, hx, hy, hu, by omega, by omega⟩, fun v H' ⟨T, ob, x2, y2, u2, e1, hd, e2, e3, e4, e5, e6⟩ => ?_⟩
  subst e1 e3
  have q1 := e4 xs (hs H hS)
  have q2 := e5 ys (hs2 H hS)
  have q3 := e6 us (hs3 H hS)
  rw [hx] at q1
  rw [hy] at q2
  rw [hu] at q3
  cases q1
  cases q2
  cases q3
  exact tup_new dm hd e2 (.cons (rx.mono S) (.cons (ry.mono S) (.cons (ru.mono S) .nil)))
theorem sep_new3 {n a b c : Nat} (ha : a < n) (hb : b < n) (hc : c < n) : ZipSep3 (n + 5) (n + 3) (n + 4) n (n + 1) (n + 2) [n, a] [n + 1, b] [n + 2, c] where
  TIz := ne_a (by decide)
  TOz := ne_a (by decide)
  TITO := ne_a (by decide)
  TIi1 := ne_0 (by decide)
  mem1 := List.mem_cons_self
  zf1 := nin2 (ne_0 (by decide)) (ne_k ha 5)
  Tf1 := nin2 (ne_0 (by decide)) (ne_k ha 4)
  TIi2 := ne_a (by decide)
  mem2 := List.mem_cons_self
  zf2 := nin2 (ne_a (by decide)) (ne_k hb 5)
  Tf2 := nin2 (ne_a (by decide)) (ne_k hb 4)
  TIi3 := ne_a (by decide)
  mem3 := List.mem_cons_self
  zf3 := nin2 (ne_a (by decide)) (ne_k hc 5)
  Tf3 := nin2 (ne_a (by decide)) (ne_k hc 4)
  sep1_2 := nin2 (Ne.symm (ne_0 (by decide))) (Nat.ne_of_gt hb)
  sep1_3 := nin2 (Ne.symm (ne_0 (by decide))) (Nat.ne_of_gt hc)
  sep2_1 := nin2 (ne_0 (by decide)) (ne_k ha 1)
  sep2_3 := nin2 (ne_a (by decide)) (ne_k hc 1)
  sep3_1 := nin2 (ne_0 (by decide)) (ne_k ha 2)
  sep3_2 := nin2 (ne_a (by decide)) (ne_k hb 2)
section
variable {X : Cx} {pos : Pos}
theorem di_zips3 {e e2 e3 : Expr} {f : M (List D)} {p tpos kp cp : Pos} {elts : List Expr} {kk kc : Nat} (hg : Gl X "zip") (hm : X.mg "zip" = none) (ha : DA X [e, e2, e3] f)
    (he : backTo pos (starEach [e, e2, e3] X.env) = (false, eval e X.env) :: backTo pos (starEach [e2, e3] X.env) := by rfl) (hpl : (backTo pos (starEach [e, e2, e3] X.env)).any (·.1) = false := by rfl)
    (hall : (backToKw pos (keywordEach [⟨some "strict", .Constant (.bool true) kc cp, kp⟩] X.env)).all (·.1.isSome) = true := by rfl) (hkw : (backToKw pos (keywordEach [⟨some "strict", .Constant (.bool true) kc cp, kp⟩] X.env)).any (·.1.isNone) = false := by rfl)
    (hks : (backToKw pos (keywordEach [⟨some "strict", .Constant (.bool true) kc cp, kp⟩] X.env)).filterMap (·.1) = [Str.ofString "strict"] := by rfl) :
    DI X (.Tuple elts kk tpos) (.Call (.Name "zip" p) [e, e2, e3] [⟨some "strict", .Constant (.bool true) kc cp, kp⟩] pos) (cIt zip3D f) := by
  refine ⟨fun pins s σ H Rr I h => ?_⟩
  obtain ⟨F, O, s0, items, s', R, hf, q⟩ := h
  obtain ⟨ds, h1, h2⟩ := cIt_inv hf
  refine wpAny_Call_Name_kw (ld_blt I hg hm PyProof.Rows.boot_zip (Zs.callWith_tyKw (thn (goA (pos := pos) ha I R h1) fun us s1 ⟨vs, H1, I1, rv, R1, S1, K1, ra⟩ => ?_) he hpl hall hkw))
  refine PyProof.Rows.kws_cons (wpAny_mono ((pe_bl (X := X) (b := true)).run pins s1 σ H1 (fun x H2 => x = .bl true ∧ H2 = H1) I1 ⟨rfl, rfl⟩) (fun kv s2 ⟨kx, H2, I2, rk, ek, eH⟩ => ?_) fun _ _ x => x)
  subst ek eH
  cases rk
  refine PyProof.Rows.kws_nil ?_
  rw [hks]
  unfold zip3D at h2
  split at h2
  · split at h2
    · rename_i ds es gs e0 e1 e2
      split at h2
      · rename_i hl
        cases h2
        cases ra with
        | cons r1 r2 =>
          cases r2 with
          | cons r2 r3 =>
            cases r3 with
            | cons r3 r4 =>
            cases r4
            obtain ⟨k, a, xs, rfl, hx, rx⟩ := r1.seq fz_le e0
            obtain ⟨l, b, ys, rfl, hy, ry⟩ := r2.seq fz_le e1
            obtain ⟨m, c, zs, rfl, hz0, rz⟩ := r3.seq fz_le e2
            cases rv with
            | cons r rr =>
              cases rr with
              | cons r' rr =>
                cases rr with
                | cons r'' rr =>
                cases rr
                cases r
                cases r'
                cases r''
                obtain ⟨its, _, hp, _, hlt⟩ := seqK I2 (hx H2 fz_le)
                obtain ⟨its2, _, hp2, _, hlt2⟩ := seqK I2 (hy H2 fz_le)
                obtain ⟨its3, _, hp3, _, hlt3⟩ := seqK I2 (hz0 H2 fz_le)
                refine Zs.zs3_begins (begK k a its.toArray) (begK l b its2.toArray) (begK m c its3.toArray) hp hp2 hp3 fun h' hz hTI hTO hi1 hi2 hi3 hk => Zs.zs_iter hz ?_
                have I3 : Inv X pins σ H2 { s2 with heap := h' } := I2.kept (t' := s2.toks) hk
                refine ⟨s2.heap.objs.size + 5, [s2.heap.objs.size + 5, s2.heap.objs.size + 3, s2.heap.objs.size + 4, s2.heap.objs.size, s2.heap.objs.size + 1, s2.heap.objs.size + 2], _, Jz3 X.K k l m a b c, H2, rfl, I3, turn_zs3 k l m (sep_new3 hlt hlt2 hlt3) (Nat.ne_of_lt hlt) (Ne.symm (ne_k hlt2 1)) (Ne.symm (ne_k hlt3 2)), ⟨hz, hTI, ⟨_, _, _, hTO⟩, itK_new hi1, itK_new hi2, itK_new hi3⟩, fp_new I2 (fun b hb => by
                  have e' : b = s2.heap.objs.size + 5 ∨ b = s2.heap.objs.size + 3 ∨ b = s2.heap.objs.size + 4 ∨ b = s2.heap.objs.size ∨ b = s2.heap.objs.size + 1 ∨ b = s2.heap.objs.size + 2 := by simpa using hb
                  rcases e' with z | z | z | z | z | z <;> rw [z]
                  · exact Nat.le_add_right _ _
                  · exact Nat.le_add_right _ _
                  · exact Nat.le_add_right _ _
                  · exact Nat.le_refl _
                  · exact Nat.le_add_right _ _
                  · exact Nat.le_add_right _ _), q _ H2 R1 S1 K1 (yl_zs3 hx rx hy ry hz0 rz hl)⟩
      · cases h2
    · cases h2
  · cases h2
/-! list(range(..)) -/
def rgD (a b : Int) : List D := (List.range (b - a).toNat).map fun (i : Nat) => PyData.int (a + (i : Int))
theorem rgV_rp {K : PySem.W.Frag} {G : Hp} (a b : Int) : RpA K G (rgV a b) (rgD a b) := by
  unfold rgV rgD
  generalize (b - a).toNat = n
  suffices h : ∀ l : List Nat, RpA K G (l.map fun (i : Nat) => V.int (a + (i : Nat))) (l.map fun (i : Nat) => PyData.int (a + (i : Int))) from h _
  intro l
  induction l with
  | nil => exact .nil
  | cons x l ih => exact .cons (.int _) ih
def rgOk (a b : Int) : Prop := -(2 ^ 62) ≤ a ∧ a < 2 ^ 62 ∧ -(2 ^ 62) ≤ b ∧ b < 2 ^ 62 ∧ (b - a).toNat ≤ 2 ^ 24
instance (a b : Int) : Decidable (rgOk a b) := inferInstanceAs (Decidable (_ ∧ _))
def rg1 : D → Option (List D)
  | .int j => if rgOk 0 j then some (rgD 0 j) else none
  | _ => none
def cLrg1 (f : M D) : M (List D) := bnd f fun d => lft (rg1 d)
theorem df_lrg1 {a : Expr} {f : M D} {p p2 pos2 : Pos} (hc : X.calm = true) (hg : Gl X "list") (hm : X.mg "list" = none) (hg2 : Gl X "range") (hm2 : X.mg "range" = none) (ha : DE X a f)
    (na : starEach [a] X.env = (false, eval a X.env) :: starEach [] X.env := by rfl) (nb : starEach [.Call (.Name "range" p2) [a] [] pos2] X.env = (false, eval (.Call (.Name "range" p2) [a] [] pos2) X.env) :: starEach [] X.env := by rfl) :
    DF X (.Call (.Name "list" p) [.Call (.Name "range" p2) [a] [] pos2] [] pos) (cLrg1 f) := by
  refine ⟨fun pins sh σ H Q I h => ?_⟩
  obtain ⟨F, O, s, z, s', R, hf, q⟩ := h
  obtain ⟨d, s1, h1, h2⟩ := bnd_inv hf
  obtain ⟨z', e3, e4⟩ := lft_inv h2
  cases e4
  refine (pe_listRg hc hg hm (prg_1 hg2 hm2 ha na) nb).run pins sh σ H Q I ⟨F, O, s, d, _, R, h1, fun x H1 R1 S1 k1 r1 => ?_⟩
  unfold rg1 at e3
  split at e3
  · split at e3
    · rename_i j z
      cases e3
      refine ⟨j, r1.int_inv, z, fun p np => ?_⟩
      exact fr_own R1 S1 k1 q p _ np (rgV_rp 0 j)
    · cases e3
  · cases e3
def rg2 (d e : D) : Option (List D) := match d, e with
  | .int i, .int j => if rgOk i j then some (rgD i j) else none
  | _, _ => none
def cLrg2 (f g : M D) : M (List D) := bnd f fun d => bnd g fun e => lft (rg2 d e)
theorem df_lrg2 {a b : Expr} {f g : M D} {p p2 pos2 : Pos} (hc : X.calm = true) (hg : Gl X "list") (hm : X.mg "list" = none) (hg2 : Gl X "range") (hm2 : X.mg "range" = none) (ha : DE X a f) (hb : DE X b g)
    (na : starEach [a, b] X.env = (false, eval a X.env) :: starEach [b] X.env := by rfl) (nc : starEach [b] X.env = (false, eval b X.env) :: starEach [] X.env := by rfl) (hp : (backTo pos2 (starEach [b] X.env)).any (·.1) = false := by rfl)
    (nb : starEach [.Call (.Name "range" p2) [a, b] [] pos2] X.env = (false, eval (.Call (.Name "range" p2) [a, b] [] pos2) X.env) :: starEach [] X.env := by rfl) :
    DF X (.Call (.Name "list" p) [.Call (.Name "range" p2) [a, b] [] pos2] [] pos) (cLrg2 f g) := by
  refine ⟨fun pins sh σ H Q I h => ?_⟩
  obtain ⟨F, O, s, z, s', R, hf, q⟩ := h
  obtain ⟨d, s1, h1, h2⟩ := bnd_inv hf
  obtain ⟨e, s2, h3, h4⟩ := bnd_inv h2
  obtain ⟨z', e3, e4⟩ := lft_inv h4
  cases e4
  refine (pe_listRg hc hg hm (prg_2 hg2 hm2 ha hb na nc hp) nb).run pins sh σ H Q I ⟨F, O, s, d, _, R, h1, fun x H1 R1 S1 k1 r1 => ⟨F, O, s1, e, _, R1, h3, fun y H2 R2 S2 k2 r2 => ?_⟩⟩
  unfold rg2 at e3
  split at e3
  · split at e3
    · rename_i i j z
      cases e3
      refine ⟨i, j, (r1.mono S2).int_inv, r2.int_inv, z, fun p np => ?_⟩
      exact fr_own R2 (S1.trans S2) (k1.trans k2) q p _ np (rgV_rp i j)
    · cases e3
  · cases e3
end
end DL
namespace DL
open PySem PySem.Spec L2
open PyProof.Rows hiding St
variable [Zm]
section
variable {X : Cx} {pos : Pos}
def cTrg1 (f : M D) : M D := bnd f fun d => bnd (lft (rg1 d)) fun ds => ret (.tuple ds)
theorem de_trg1 {a : Expr} {f : M D} {p p2 pos2 : Pos} (hc : X.calm = true) (hg : Gl X "tuple") (hm : X.mg "tuple" = none) (hg2 : Gl X "range") (hm2 : X.mg "range" = none) (ha : DE X a f)
    (na : starEach [a] X.env = (false, eval a X.env) :: starEach [] X.env := by rfl) (nb : starEach [.Call (.Name "range" p2) [a] [] pos2] X.env = (false, eval (.Call (.Name "range" p2) [a] [] pos2) X.env) :: starEach [] X.env := by rfl) :
    DE X (.Call (.Name "tuple" p) [.Call (.Name "range" p2) [a] [] pos2] [] pos) (cTrg1 f) := by
  refine ⟨fun pins sh σ H Q I h => ?_⟩
  obtain ⟨F, O, s, z, s', R, hf, q⟩ := h
  obtain ⟨d, s1, h1, h2⟩ := bnd_inv hf
  obtain ⟨ds, s2, h3, h4⟩ := bnd_inv h2
  obtain ⟨z', e3, e4⟩ := lft_inv h3
  cases e4
  cases h4
  unfold rg1 at e3
  split at e3
  case h_2 => cases e3
  rename_i j
  split at e3
  case isFalse => cases e3
  rename_i ok
  cases e3
  have he := prg_1 (X := X) (p := p2) (pos := pos2) hg2 hm2 ha na pins sh σ H (fun i k H1 => i = 0 ∧ k = j ∧ Rs X.K F O H1 σ s' ∧ Same (fz O H) (fz O H1) ∧ Kn s.1 s'.1) I ⟨F, O, s, _, _, R, h1, fun x H1 R1 S1 k1 r1 => ⟨j, r1.int_inv, rfl, rfl, R1, S1, k1⟩⟩
  refine Call_ (ld_blt I hg hm boot_tuple (PyProof.Rows.callWith_type1 (args_cons (thn he fun x s3 ⟨r, i, k, t, u, v, H1, ex, hr, I1, ei, ej, R1, S1, k1⟩ => args_nil ?_) nb) nb))
  subst ex ei ej
  obtain ⟨b1, b2, b3, b4, b5⟩ := ok
  refine call_tuple_range (n := (k - 0).toNat) (I1.ok.hd hc) hr (small_one b1 b2 b3 b4) (rangeSize_nat 0 k) b5 fun h' tk acc hk hi => ?_
  have I2 : Inv X pins σ H1 { s3 with heap := h', toks := tk } := I1.kept hk
  have np : H1 h'.objs.size = none := I2.hok.fresh (Nat.le_refl _)
  have Sn := same_upd (o := tupO Zm.z { cls := .type "tuple", data := .seq acc.toList.toArray } (rgV 0 k)) np
  refine ⟨.ref h'.objs.size, upd H1 h'.objs.size (tupO Zm.z { cls := .type "tuple", data := .seq acc.toList.toArray } (rgV 0 k)), I2.laid (t' := tk) (fun c o e => Heap.get?_push_of_some _ e) (Nat.le_refl _) (tupO_ok (its := acc.toList) (n := 0) ?_ rfl rfl (vals_rg hi) (by rw [rgV_length, sizeLine_eq]; omega)), rfl, ?_⟩
  · rw [Array.toArray_toList]
    exact Heap.get?_push_size _ rfl
  · exact q _ _ (R1.ext Sn) (S1.trans (fz_same Sn)) k1 (.tup (tupAt_fz (R1.dom.ne np) rfl) ((rgV_rp 0 k).mono (fz_same Sn)))
end
end DL
set_option Elab.async false
set_option linter.all false
set_option maxRecDepth 100000
set_option maxHeartbeats 2000000
/-! DL17: the source's own dict and list: read, written, popped. -/
namespace DL
open PySem PySem.Spec L2
open PyProof.Rows hiding St
variable [Zm]
/-- the source stands in slot i -/
def isS (i : Nat) : M Unit := fun s => match s.1[i]? with
  | some (some .s) => some ((), s)
  | _ => none
theorem isS_inv {i : Nat} {s : S} {p : Unit × S} (h : isS i s = some p) : s.1[i]? = some (some .s) ∧ p.2 = s := by
  unfold isS at h
  split at h
  · rename_i e; cases h; exact ⟨e, rfl⟩
  · cases h
inductive SK where
  | left | mixed | turn
def SK.nm : SK → Str
  | .left => "left"
  | .mixed => "mixed"
  | .turn => "turn"
def SK.get (k : SK) (s : Src) : Int := match k with
  | .left => s.left
  | .mixed => s.mixed
  | .turn => s.turn
def SK.put (k : SK) (s : Src) (i : Int) : Src := match k with
  | .left => { s with left := i }
  | .mixed => { s with mixed := i }
  | .turn => { s with turn := i }
theorem nm_cl : ¬ (("cells" : Str) = "left") := by decide +kernel
theorem nm_cm : ¬ (("cells" : Str) = "mixed") := by decide +kernel
theorem nm_ct : ¬ (("cells" : Str) = "turn") := by decide +kernel
theorem nm_lm : ¬ (("left" : Str) = "mixed") := by decide +kernel
theorem nm_lt : ¬ (("left" : Str) = "turn") := by decide +kernel
theorem nm_mt : ¬ (("mixed" : Str) = "turn") := by decide +kernel
theorem src_get (ca : Addr) (s : Src) (k : SK) : valV (srcKv ca s) (.inr k.nm) = some (.int (k.get s)) := by
  have h1 := nm_cl; have h2 := nm_cm; have h3 := nm_ct; have h4 := nm_lm; have h5 := nm_lt; have h6 := nm_mt
  cases k <;> simp [srcKv, valV, SK.nm, SK.get, List.find?_cons, h1, h2, h3, h4, h5, h6]
theorem src_cells (ca : Addr) (s : Src) : valV (srcKv ca s) (.inr "cells") = some (.ref ca) := by
  simp [srcKv, valV, List.find?_cons]
theorem src_put (ca : Addr) (s : Src) (k : SK) (i : Int) : putK (srcKv ca s) (.inr k.nm) (.int i) = srcKv ca (k.put s i) := by
  have h1 := nm_cl; have h2 := nm_cm; have h3 := nm_ct; have h4 := nm_lm; have h5 := nm_lt; have h6 := nm_mt
  cases k <;> simp [srcKv, putK, SK.nm, SK.put, h1, h2, h3, h4, h5, h6, Ne.symm h4, Ne.symm h5, Ne.symm h6, eq_comm]
section
variable {K : PySem.W.Frag} {F : Fc} {O : List Addr} {H : Hp} {σ : St} {s : S}
theorem RepS.srcPut (R : Rs K F O H σ s) (st' : Src) (hc : st'.cells = s.2.cells) (nac : F.sa ≠ F.ca) : Rs K F O (upd H F.sa (.dK (srcKv F.ca st'))) σ (s.1, st') ∧ Same (fz O H) (fz O (upd H F.sa (.dK (srcKv F.ca st')))) := by
  have ms : F.sa ∈ O := R.sub _ R.saB
  have h1 : Same (fz O H) (fz O (upd H F.sa (.dK (srcKv F.ca st')))) := fun b o e => by
    obtain ⟨n, e⟩ := fz_iff.mp e
    exact fz_iff.mpr ⟨n, by rw [upd_ne (fun z : b = F.sa => n (z ▸ ms))]; exact e⟩
  exact ⟨RepS.call R h1 (fun b _ n1 _ => upd_ne n1) ⟨upd_same, by rw [upd_ne (Ne.symm nac), hc]; exact R.src.2⟩, h1⟩
theorem RepS.srcPop (R : Rs K F O H σ s) (cs : List Int) (nac : F.sa ≠ F.ca) : Rs K F O (upd H F.ca (.lst (cs.map V.int))) σ (s.1, { s.2 with cells := cs }) ∧ Same (fz O H) (fz O (upd H F.ca (.lst (cs.map V.int)))) := by
  have ms : F.ca ∈ O := R.sub _ R.caB
  have h1 : Same (fz O H) (fz O (upd H F.ca (.lst (cs.map V.int)))) := fun b o e => by
    obtain ⟨n, e⟩ := fz_iff.mp e
    exact fz_iff.mpr ⟨n, by rw [upd_ne (fun z : b = F.ca => n (z ▸ ms))]; exact e⟩
  exact ⟨RepS.call R h1 (fun b _ _ n2 => upd_ne n2) ⟨by rw [upd_ne nac]; exact R.src.1, upd_same⟩, h1⟩
theorem SrcAt.ne {sa ca : Addr} {st : Src} (h : SrcAt H sa ca st) : sa ≠ ca := fun z => by
  have h1 := h.1
  rw [z, h.2] at h1
  cases h1
end
section
variable {X : Cx} {pos : Pos}
def mSrcGet (i : Nat) (k : SK) : M D := bnd (isS i) fun _ s => some (.int (k.get s.2), s)
theorem slS {K : PySem.W.Frag} {F : Fc} {O : List Addr} {H : Hp} {σ : St} {s : S} {i : Nat} (R : Rs K F O H σ s) (h : s.1[i]? = some (some .s)) : σ[i]? = some (some (.ref F.sa)) := by
  obtain ⟨x, hx, e⟩ := R.sl i _ h
  have e : x = .ref F.sa := e
  rw [e] at hx
  exact hx
/-- source["left"] .. -/
theorem de_srcGet (i : Nat) (k : SK) {x : Str} {p p2 : Pos} {c : Nat} (hu : X.A.units + 1 < cLine) (hN : X.N[i]? = some x := by rfl) (hv : Vis X.env.scope x := by first | exact Or.inl rfl | exact Or.inr (Or.inl rfl) | exact Or.inr (Or.inr rfl)) (hd : (x == ("__debug__" : Str)) = false := by decide) (hcd : (x == ("__classdict__" : Str)) = false := by decide)
    {w : Str} (hw : k.nm = w := by rfl) : DE X (.Subscript (.Name x p) (.Constant (.str w) c p2) pos) (mSrcGet i k) := by
  subst hw
  refine ⟨fun pins sh σ H Q I h => ?_⟩
  obtain ⟨F, O, s, d, s', R, hf, q⟩ := h
  obtain ⟨_, s1, h1, h2⟩ := bnd_inv hf
  obtain ⟨e1, e2⟩ := isS_inv h1
  have e2 : s1 = s := e2
  subst e2
  cases h2
  refine (pe_dget hu (pe_var hN hv hd hcd) pe_str (fun _ _ => rfl)).run pins sh σ H Q I ⟨_, slS R e1, F.sa, .int (k.get s'.2), rfl, ?_, q _ H R (Same.refl _) (Kn.refl _) (.int _)⟩
  have g := DGet.k (k := .inr k.nm) R.src.1
  rw [src_get] at g
  exact g
def mSrcLen (i : Nat) : M D := bnd (isS i) fun _ s => some (.int s.2.cells.length, s)
/-- len(source["cells"]) -/
theorem de_srcLen (i : Nat) {x : Str} {p p2 p3 p4 : Pos} {c : Nat} (hu : X.A.units + 1 < cLine) (hg : Gl X "len") (hm : X.mg "len" = none) (hN : X.N[i]? = some x := by rfl) (hv : Vis X.env.scope x := by first | exact Or.inl rfl | exact Or.inr (Or.inl rfl) | exact Or.inr (Or.inr rfl)) (hd : (x == ("__debug__" : Str)) = false := by decide) (hcd : (x == ("__classdict__" : Str)) = false := by decide)
    (he : starEach [.Subscript (.Name x p) (.Constant (.str "cells") c p2) p3] X.env = (false, eval (.Subscript (.Name x p) (.Constant (.str "cells") c p2) p3) X.env) :: starEach [] X.env := by rfl) : DE X (.Call (.Name "len" p4) [.Subscript (.Name x p) (.Constant (.str "cells") c p2) p3] [] pos) (mSrcLen i) := by
  refine ⟨fun pins sh σ H Q I h => ?_⟩
  obtain ⟨F, O, s, d, s', R, hf, q⟩ := h
  obtain ⟨_, s1, h1, h2⟩ := bnd_inv hf
  obtain ⟨e1, e2⟩ := isS_inv h1
  have e2 : s1 = s := e2
  subst e2
  cases h2
  refine (pe_callB call_len hg hm (by decide +kernel) (pa_cons (pe_dget hu (pe_var hN hv hd hcd) pe_str (fun _ _ => rfl)) pa_nil he) (by decide) (by decide) he rfl).run pins sh σ H Q I ⟨_, slS R e1, F.sa, .ref F.ca, rfl, ?_, ?_⟩
  · have g := DGet.k (k := .inr "cells") R.src.1
    rw [src_cells] at g
    exact g
  · refine ⟨.ref F.ca, (s'.2.cells.map V.int).length, rfl, .inl ⟨_, SqL.of R.src.2, rfl⟩, ?_⟩
    rw [List.length_map]
    exact q _ H R (Same.refl _) (Kn.refl _) (.int _)
def popSrc : Src → Option (Int × Src) := fun st => match st.cells.getLast? with
  | some c => some (c, { st with cells := st.cells.dropLast })
  | none => none
def mSrcPop (i : Nat) : M D := bnd (isS i) fun _ s => match popSrc s.2 with
  | some r => some (.int r.1, (s.1, r.2))
  | none => none
/-- source["cells"].pop() -/
theorem de_srcPop (i : Nat) {x : Str} {p p2 p3 ap : Pos} {c : Nat} (hu : X.A.units + 1 < cLine) (hN : X.N[i]? = some x := by rfl) (hv : Vis X.env.scope x := by first | exact Or.inl rfl | exact Or.inr (Or.inl rfl) | exact Or.inr (Or.inr rfl)) (hd : (x == ("__debug__" : Str)) = false := by decide) (hcd : (x == ("__classdict__" : Str)) = false := by decide)
    (hbase : attributeBase (.Subscript (.Name x p) (.Constant (.str "cells") c p2) p3) "pop" X.env (eval (.Subscript (.Name x p) (.Constant (.str "cells") c p2) p3) X.env) = eval (.Subscript (.Name x p) (.Constant (.str "cells") c p2) p3) X.env := by rfl) (hline : (ap.endLine == pos.line) = true := by rfl) :
    DE X (.Call (.Attribute (.Subscript (.Name x p) (.Constant (.str "cells") c p2) p3) "pop" ap) [] [] pos) (mSrcPop i) := by
  refine ⟨fun pins sh σ H Q I h => ?_⟩
  obtain ⟨F, O, s, d, s', R, hf, q⟩ := h
  obtain ⟨_, s1, h1, h2⟩ := bnd_inv hf
  obtain ⟨e1, e2⟩ := isS_inv h1
  have e2 : s1 = s := e2
  subst e2
  have h2 : (match popSrc s1.2 with | some r => some (PyData.int r.1, (s1.1, r.2)) | none => none) = some (d, s') := h2
  cases e3 : popSrc s1.2 with
  | none => rw [e3] at h2; cases h2
  | some r =>
    rw [e3] at h2
    cases h2
    unfold popSrc at e3
    split at e3
    · rename_i cc e4
      cases e3
      refine (pe_bm0 PySem.F.plainAttrs_list PySem.F.slot_list_pop PySem.F.type_list_pop mt_pop (pe_dget hu (pe_var hN hv hd hcd) pe_str (fun _ _ => rfl)) hbase hline).run pins sh σ H Q I ⟨_, slS R e1, F.sa, .ref F.ca, rfl, ?_, .inl ⟨rfl, _, SqL.of R.src.2⟩, ?_⟩
      · have g := DGet.k (k := .inr "cells") R.src.1
        rw [src_cells] at g
        exact g
      · refine ⟨F.ca, _, .int cc, rfl, rfl, R.src.2, ?_, ?_⟩
        · rw [List.length_map, List.getElem?_map, ← List.getLast?_eq_getElem?, e4]
          rfl
        · rw [← List.map_dropLast]
          obtain ⟨R2, S2⟩ := RepS.srcPop R s1.2.cells.dropLast R.src.ne
          exact q _ _ R2 S2 (Kn.refl _) (.int _)
    · cases e3
def cSrcSet (i : Nat) (k : SK) (f : M D) : M Fl := bnd f fun d => bnd (intM d) fun n => bnd (isS i) fun _ s => some (.nx, (s.1, k.put s.2 n))
/-- source["left"] = e -/
theorem ds_srcSet (i : Nat) (k : SK) {x : Str} {p p2 tp : Pos} {c : Nat} {e : Expr} {f : M D} (hu : X.A.units + 1 < cLine) (he : DE X e f)
    (hN : X.N[i]? = some x := by rfl) (hvis : Vis X.env.scope x := by first | exact Or.inl rfl | exact Or.inr (Or.inl rfl) | exact Or.inr (Or.inr rfl)) (hd : (x == ("__debug__" : Str)) = false := by decide) (hcd : (x == ("__classdict__" : Str)) = false := by decide)
    {w : Str} (hw : k.nm = w := by rfl) (ha : ∀ v, assign (.Subscript (.Name x p) (.Constant (.str w) c p2) tp) X.env v = (do
      let ov ← holding [v] (eval (.Name x p) X.env)
      let iv ← holding [v, ov] (eval (.Constant (.str w) c p2) X.env)
      standAt tp
      holding [v, ov, iv] (setItem ov iv v)
      release [v, ov, iv] []) := by intro _; rfl) (hs : swapsWithSole [.Subscript (.Name x p) (.Constant (.str w) c p2) tp] e pos.line X.env = pure false := by rfl) (hsw : swappedStores [.Subscript (.Name x p) (.Constant (.str w) c p2) tp] e X.env = pure none := by rfl)
    (h1 : (assignEach [.Subscript (.Name x p) (.Constant (.str w) c p2) tp] X.env).map (·.2) = [assign (.Subscript (.Name x p) (.Constant (.str w) c p2) tp) X.env] := by rfl) : DS X (.Assign [.Subscript (.Name x p) (.Constant (.str w) c p2) tp] e pos) (cSrcSet i k f) := by
  subst hw
  refine ⟨fun pins sh σ H D I h => ?_⟩
  obtain ⟨F, O, s, fl, s', R, hf, q⟩ := h
  obtain ⟨d, s1, e1, hf1⟩ := bnd_inv hf
  obtain ⟨n, s2, e2, hf2⟩ := bnd_inv hf1
  obtain ⟨_, s3, e5, hf3⟩ := bnd_inv hf2
  obtain ⟨e3, e4⟩ := intM_inv e2
  obtain ⟨e6, e7⟩ := isS_inv e5
  have e4 : s2 = s1 := e4
  have e7 : s3 = s2 := e7
  have e3 : d = .int n := e3
  cases hf3
  rw [e7, e4] at q
  rw [e4] at e6
  subst e3
  clear e7 e5 e2 hf2 hf1
  refine (ps_asg he (pg_sub (pe_var hN hvis hd hcd) pe_str (set_any hu) ha) hs hsw h1).run pins sh σ H D I ⟨F, O, s, _, _, R, e1, fun y H1 R1 S1 k1 rv => ?_⟩
  obtain rfl := rv.int_inv
  refine ⟨_, slS R1 e6, ?_⟩
  refine .inr ⟨F.sa, _, rfl, DPut.k (k := .inr k.nm) R1.src.1 (by show 4 < sizeLine; decide), ?_⟩
  rw [src_put]
  obtain ⟨R2, S2⟩ := RepS.srcPut R1 (k.put s1.2 n) (by cases k <;> rfl) R1.src.ne
  exact q σ O _ R2 (S1.trans S2)
end
end DL
set_option Elab.async false
set_option linter.all false
set_option maxRecDepth 100000
set_option maxHeartbeats 2000000
/-! DL18: how the source comes; the law's own frame; its end. -/
namespace DL
open PySem PySem.Spec L2
open PyProof.Rows hiding St
variable [Zm]
/-- what the script's source begins with -/
def mixOf : Int → List Int → Int
  | m, [] => m
  | m, c :: cs => mixOf ((m * 69069 + c * 31 + 5) % 2147483629) cs
def absI (c : Int) : Int := if c < 0 then -c else c
def srcOf (ns : List Int) : Src := { cells := (ns.map absI).reverse, left := 1, mixed := mixOf 11 ns, turn := 0 }
theorem op_mulZ {X : Cx} : OpR X (binaryOp .Mult) (rI mulOk fun i j => .int (i * j)) := opI (C := mulOk) (g := fun i j => i * j) fun _ _ _ _ _ _ _ hc q => mul_int q hc.ok
def rAddI : R2 := rI0 fun i j => .int (i + j)
def rMulI : R2 := rI mulOk fun i j => .int (i * j)
def rModI : R2 := rI (fun _ j => 0 < j) fun i j => .int (i % j)
def rInt1 : List V → Hp → VK → Prop := fun xs H Q => (∃ i, xs = [.int i] ∧ Q (.int i) H) ∨ ∃ k, xs = [.bl k] ∧ Q (.int (if k then 1 else 0)) H
def rAbs1 : List V → Hp → VK → Prop := fun xs H Q => ∃ i, xs = [.int i] ∧ Q (.int (if i < 0 then -i else i)) H
def tI (n : Int) : TE := tC (.int n)
def srcStep : TE := tOp rModI (tCB rInt1 (tCons (tOp rAddI (tOp rAddI (tOp rMulI (tVar 1) (tI 69069)) (tOp rMulI (tVar 2) (tI 31))) (tI 5)) tNil)) (tI 2147483629)
def srcDisp (K : PySem.W.Frag) : List (TE × TE) := [(tC (.str "cells"), tRevL K (tLc (iList K (tVar 0)) (gName 2) tYes (tCB rAbs1 (tCons (tVar 2) tNil)) [2])), (tC (.str "left"), tI 1), (tC (.str "mixed"), tVar 1), (tC (.str "turn"), tI 0)]
def srcT (K : PySem.W.Frag) : TS := tSeq (tAsg (tI 11) (gName 1)) (tSeq (tFor (iList K (tVar 0)) (gName 2) (tAsg srcStep (gName 1))) (tRet (tDisp (srcDisp K))))
theorem mixOf_snoc : ∀ (xs : List Int) (c m : Int), mixOf m (xs ++ [c]) = (mixOf m xs * 69069 + c * 31 + 5) % 2147483629
  | [], _, _ => rfl
  | x :: xs, c, m => mixOf_snoc xs c _
theorem mixOf_bound : ∀ (xs : List Int) (m : Int), 0 ≤ m → m < 2147483629 → 0 ≤ mixOf m xs ∧ mixOf m xs < 2147483629
  | [], _, h1, h2 => ⟨h1, h2⟩
  | x :: xs, m, _, _ => mixOf_bound xs _ (Int.emod_nonneg _ (by decide)) (Int.emod_lt_of_pos _ (by decide))
theorem at_map {ns : List Int} {i : Nat} {x : V} (h : (ns.map V.int)[i]? = some x) : ∃ n, ns[i]? = some n ∧ x = .int n := by
  rw [List.getElem?_map] at h
  cases e : ns[i]? with
  | none => rw [e] at h; cases h
  | some n => rw [e] at h; exact ⟨n, rfl, (Option.some.inj h).symm⟩
theorem take_snoc {α : Type} {xs : List α} {i : Nat} {x : α} (h : xs[i]? = some x) : xs.take (i + 1) = xs.take i ++ [x] := by
  rw [List.take_succ, h]
  rfl
theorem src_run {K : PySem.W.Frag} {G : Hp} {a : Addr} {ns : List Int} {Q : VK} (hS : SqL K G a (ns.map V.int)) (hl : ns.length ≤ 63)
    (q : ∀ (sa ca : Addr) (G' : Hp), G sa = none → G ca = none → sa ≠ ca → Same G G' → SrcAt G' sa ca (srcOf ns) → Q (.ref sa) G') : srcT K { nx := fun _ G' => Q .non G', rt := Q } [some (.ref a), none, none] G := by
  refine ⟨_, rfl, a, rfl, ⟨_, hS⟩, for_list (K := K) (a := a) (xs := ns.map V.int) (fun i σ H => H = G ∧ ∃ v2, σ = [some (.ref a), some (.int (mixOf 11 (ns.take i))), v2]) ⟨rfl, _, rfl⟩ (fun i σ H _ h => by rw [h.1]; exact hS) ?_ ?_⟩
  · rintro i x σ H hx ⟨rfl, v2, rfl⟩
    obtain ⟨n, hn, rfl⟩ := at_map hx
    obtain ⟨b1, b2⟩ := mixOf_bound (ns.take i) 11 (by decide) (by decide)
    refine ⟨_, rfl, _, _, rfl, rfl, .inl (by omega), ?_⟩
    refine ⟨_, rfl, _, _, rfl, rfl, .inr (.inl (by decide)), ?_⟩
    refine ⟨_, _, rfl, rfl, _, _, rfl, rfl, .inl ⟨_, rfl, _, _, rfl, rfl, (by show (0 : Int) < 2147483629; decide), ?_⟩⟩
    rw [take_snoc hn, mixOf_snoc]
    exact ⟨rfl, _, rfl⟩
  · rintro σ H ⟨rfl, v2, rfl⟩
    have ht : ns.take (ns.map V.int).length = ns := by rw [List.length_map, List.take_length]
    rw [ht]
    intro p np
    have S1 : Same H (upd H p (.dK [])) := same_upd np
    refine ⟨_, rfl, a, rfl, ⟨_, S1.seq hS⟩, fun d nd => ?_⟩
    refine lc_list (K := K) (a := a) (xs := ns.map V.int) (fun i H' => H' = upd (upd H p (.dK [])) d (.lst ((ns.take i).map fun c => V.int (absI c)))) (by simp) (fun i H' _ h => by rw [h]; exact (same_upd nd).seq (S1.seq hS)) ?_ ?_
    · rintro i x H' hx rfl
      obtain ⟨n, hn, rfl⟩ := at_map hx
      refine ⟨rfl, ?_⟩
      unfold tYes
      dsimp only
      rw [if_pos rfl]
      refine ⟨_, rfl, _, rfl, _, upd_same, ?_, ?_⟩
      · rw [List.length_map, List.length_take, sizeLine_eq]; omega
      · rw [upd_upd, take_snoc hn, List.map_append]
        rfl
    · rintro H' rfl
      rw [ht]
      refine ⟨d, _, rfl, SqL.of upd_same, fun c nc => ?_⟩
      have npd : p ≠ d := fun z => by rw [z, upd_same] at nd; cases nd
      have S2 : Same (upd H p (.dK [])) (upd (upd H p (.dK [])) d (.lst (ns.map fun c => V.int (absI c)))) := same_upd nd
      have hp3 : upd (upd (upd H p (.dK [])) d (.lst (ns.map fun c => V.int (absI c)))) c (.lst (ns.map fun c => V.int (absI c)).reverse) p = some (.dK []) := same_upd nc _ _ (S2 _ _ upd_same)
      have npc : p ≠ c := ne_of_none (S2 p _ upd_same) nc
      have nH : H c = none := (S1.trans S2).free nc
      refine ⟨_, rfl, hp3, [(.inr "cells", .ref c), (.inr "left", .int 1), (.inr "mixed", .int (mixOf 11 ns)), (.inr "turn", .int 0)], rfl, (by show 4 ≤ 15; decide), ?_⟩
      have em : mergeK [] [((.inr "cells" : Key), V.ref c), (.inr "left", .int 1), (.inr "mixed", .int (mixOf 11 ns)), (.inr "turn", .int 0)] = srcKv c (srcOf ns) := by
        have h1 := nm_cl; have h2 := nm_cm; have h3 := nm_ct; have h4 := nm_lm; have h5 := nm_lt; have h6 := nm_mt
        simp [mergeK, putK, srcKv, srcOf, h1, h2, h3, h4, h5, h6]
      rw [em]
      refine q p c _ np nH npc (fun b o e => ?_) ⟨upd_same, ?_⟩
      · rw [upd_ne (ne_of_none e np)]
        exact same_upd nc _ _ (S2 _ _ (S1 _ _ e))
      · rw [upd_ne npc.symm, upd_same]
        simp [srcOf, List.map_reverse]
/-! ### the promises -/
def spSource (K : PySem.W.Frag) : Sp := fun vs G Q _ => ∃ (a : Addr) (ns : List Int), vs = [.ref a] ∧ SqL K G a (ns.map V.int) ∧ ns.length ≤ 63 ∧
  ∀ (sa ca : Addr) (G' : Hp), G sa = none → G ca = none → sa ≠ ca → Same G G' → SrcAt G' sa ca (srcOf ns) → Q (.ref sa) G'
def spLaw (K : PySem.W.Frag) : Sp := fun vs G Q _ => ∃ (a : Addr) (ns : List Int), vs = [.ref a] ∧ SqL K G a (ns.map V.int) ∧ ns.length ≤ 63 ∧ (∀ z ∈ ns, Builtin.Int.intBits z ≤ 1048576) ∧ ∀ G', Q (.bl true) G'
section
variable {P : Program} {w : World} {K : PySem.W.Frag} {mg : Str → Option Value} {base : Heap} {x qual : Str} {st : Stmt} {f : Addr} {fd : FuncData} {k : Nat}
theorem source_fn (F : Fun K x qual st f fd) (Sc : FnScope ["script", "mixed", "cell"] ["script"] (defScope st))
    (hbody : ∀ (cdv : Value) (A : Around) (outer : List Env) (s : Shared) (H : Hp), A.guards = some [] → Room k (A.deeper (envOfC qual (defScope st) s.heap.objs.size f cdv)) →
      PSs (cxOf CX0 P w K mg base ["script", "mixed", "cell"] qual (defScope st) f cdv A outer s H E0).nox (defBody st) (srcT K)) : FnG P w K mg base (k + 1) f fd ["script"] (spSource K) := by
  refine fnG_of F Sc (fun vs H Q E h => ?_) fun cdv A outer s H vs Q hgu hr h => ⟨srcT K, hbody cdv A outer s H hgu hr, ?_⟩
  · obtain ⟨a, ns, rfl, _⟩ := h
    rfl
  · obtain ⟨a, ns, rfl, hS, hl, q⟩ := h
    exact src_run hS hl q
def srcE (K : PySem.W.Frag) : TE := fun τ G Φ => tCons (tVar 0) tNil τ G fun xs G1 => spSource K xs G1 Φ E0
def envL (n : Nat) : DEnv := none :: some .s :: List.replicate n none
theorem law_run {G : Hp} {a : Addr} {ns : List Int} {Q : VK} {n : Nat} {g : M Fl} {s' : S} (hS : SqL K G a (ns.map V.int)) (hl : ns.length ≤ 63) (hg : g (envL n, srcOf ns) = some (.rt (.bool true), s')) (q : ∀ G', Q (.bl true) G') :
    tSeq (tAsg (srcE K) (gName 1)) (TGS K g) { nx := fun _ G' => Q .non G', rt := Q } (some (.ref a) :: none :: List.replicate n none) G := by
  refine ⟨_, rfl, a, ns, rfl, hS, hl, fun sa ca G' n1 n2 ne S src => ?_⟩
  have R : RepS K ⟨[sa, ca], G', sa, ca⟩ [sa, ca] G' (some (V.ref a) :: some (V.ref sa) :: List.replicate n none) (envL n) (srcOf ns) := by
    have get : ∀ (i : Nat) sl, (envL n)[i]? = some (some sl) → i = 1 ∧ sl = .s := fun i sl e => by
      match i, e with
      | 0, e => cases e
      | 1, e => cases e; exact ⟨rfl, rfl⟩
      | i + 2, e =>
        have e : (List.replicate n (none : Option Sl))[i]? = some (some sl) := e
        rw [List.getElem?_replicate] at e
        split at e <;> cases e
    refine ⟨by simp [envL], fun i sl e => ?_, fun i j si sj b hij e1 e2 o1 => ?_, src, by simp, by simp, fun b hb => hb, fun b hb => ?_, fun b hb => .inl hb, fun b o e _ => e, fun b _ _ _ => rfl⟩
    · obtain ⟨e1, e2⟩ := get i sl e
      subst e1 e2
      exact ⟨_, rfl, rfl⟩
    · obtain ⟨_, e3⟩ := get i si e1
      subst e3
      cases o1
    · have hb : b = sa ∨ b = ca := by simpa using hb
      rcases hb with z | z
      · rw [z, src.1]; exact fun q => nomatch q
      · rw [z, src.2]; exact fun q => nomatch q
  exact ⟨_, _, (envL n, srcOf ns), _, s', R, hg, fun y σ' O' H' _ _ ry => by rw [ry.bl_inv]; exact q H'⟩
theorem law_fn {N : List Str} {g : M Fl} (F : Fun K x qual st f fd) (Sc : FnScope N ["script"] (defScope st)) {n : Nat} (hn : N.length = n + 2)
    (hbody : ∀ (cdv : Value) (A : Around) (outer : List Env) (s : Shared) (H : Hp), A.guards = some [] → Room k (A.deeper (envOfC qual (defScope st) s.heap.objs.size f cdv)) →
      PSs (cxOf CX0 P w K mg base N qual (defScope st) f cdv A outer s H E0).nox (defBody st) (tSeq (tAsg (srcE K) (gName 1)) (TGS K g)))
    (hg : ∀ ns : List Int, ns.length ≤ 63 → (∀ z ∈ ns, Builtin.Int.intBits z ≤ 1048576) → ∃ s', g (envL n, srcOf ns) = some (.rt (.bool true), s')) : FnG P w K mg base (k + 1) f fd ["script"] (spLaw K) := by
  refine fnG_of F Sc (fun vs H Q E h => ?_) fun cdv A outer s H vs Q hgu hr h => ⟨_, hbody cdv A outer s H hgu hr, ?_⟩
  · obtain ⟨a, ns, rfl, _⟩ := h
    rfl
  · obtain ⟨a, ns, rfl, hS, hl, hb, q⟩ := h
    obtain ⟨s', e⟩ := hg ns hl hb
    have es : start N [V.ref a] = some (.ref a) :: none :: List.replicate n none := by
      show [some (V.ref a)] ++ List.replicate (N.length - 1) none = _
      rw [hn]
      rfl
    rw [es]
    exact law_run hS hl e q
end
/-! ### the law's end -/
theorem walkG {l : PySem.W.OpenLaw} {k : Nat} {q : Program} {loose : List Str} {XP : (Str → Option Value) → Heap → Prop} {YP : World → Heap → Prop} {d : DefRec} {x : Str}
    (hn : l.most = some 63) (hdf : d.params.defaults = []) (hr : Room k callerA)
    (F : ∀ (w : World) (mg : Str → Option Value) (fa : Addr) (h : Heap), YP w h → h.Ns mainGlobals mg → mg d.name = some (.ref fa) →
      ∃ (K : PySem.W.Frag) (fd : FuncData), K.In h ∧ (∀ (s : Shared) (u : Value), BindsTo s fd ⟨[u], []⟩ [(x, u)]) ∧ ∀ base : Heap, K.In base → base.Ns mainGlobals mg → FnG l.prog w K mg base k fa fd [x] (spLaw K)) :
    PySem.W.WalkO q loose XP YP l.row.toRowW d [] (fun f vs => PySem.call f vs) := by
  refine Att.attach_callB hn hdf fun w s₀ s₁ mg mb fa o pm cd doc a vs ns G Y ho hd hcd hmg hobj hints hlen hbits hg => ?_
  obtain ⟨K, fd, KX, hb, hF⟩ := F w mg fa _ Y G.T.g hmg
  exact lawG KX G.T.g G.T.b G.T.builtins G.T.nolimit hg hobj hints (Nat.le_trans hlen (by decide)) hr hF hb fun H _ hS => ⟨a, ns, rfl, hS, hlen, hbits, fun _ => rfl⟩
end DL
set_option Elab.async false
set_option linter.all false
set_option maxRecDepth 100000
set_option maxHeartbeats 1000000
/-! DL19: what the printed derivations name. -/
namespace DL
open PySem PySem.Spec L2
open PyProof.Rows hiding St
variable [Zm]
theorem fun_of {K : PySem.W.Frag} {x qual : Str} {st : Stmt} {kws : List (Str × V)} {f : Addr} {fd : FuncData} (F : FunD K x qual (defArgs st) (defBody st) (defScope st) [] kws f fd) : Fun K x qual st f fd := by
  obtain ⟨oc, od, dV, kV, doc, pm, an, cdv, ct, osl, h1, h2, h3, h4, _⟩ := F.ex
  rcases h4 with ⟨_, e⟩ | ⟨e, _⟩
  · subst e
    exact ⟨⟨oc, od, kV, doc, pm, an, cdv, ct, osl, h1, h2, h3⟩, F.kp⟩
  · exact absurd rfl e
def mDo (f : M D) : M Od := bnd f fun d => ret (Od.d d)
theorem len_nil {α : Type} : ∀ (s : S) (r : List α × S), (ret ([] : List α)) s = some r → r.1.length = 0 := fun s r h => by cases h; rfl
theorem len_cons {α : Type} {f : M α} {g : M (List α)} {n : Nat} (h : ∀ (s : S) (r : List α × S), g s = some r → r.1.length = n) : ∀ (s : S) (r : List α × S), cCons f g s = some r → r.1.length = n + 1 := fun s r e => by
  obtain ⟨a, s1, _, e⟩ := bnd_inv e
  obtain ⟨as, s2, e2, e⟩ := bnd_inv e
  cases e
  exact congrArg (· + 1) (h _ _ e2)
theorem bt_len : bootBuiltins "len" = some (.builtin "len") := by decide +kernel
theorem bt_abs : bootBuiltins "abs" = some (.builtin "abs") := by decide +kernel
theorem bt_max : bootBuiltins "max" = some (.builtin "max") := by decide +kernel
theorem bt_min : bootBuiltins "min" = some (.builtin "min") := by decide +kernel
theorem bt_sum : bootBuiltins "sum" = some (.builtin "sum") := by decide +kernel
theorem bt_all : bootBuiltins "all" = some (.builtin "all") := by decide +kernel
theorem bt_any : bootBuiltins "any" = some (.builtin "any") := by decide +kernel
theorem bt_sorted : bootBuiltins "sorted" = some (.builtin "sorted") := by decide +kernel
theorem bt_repr : bootBuiltins "repr" = some (.builtin "repr") := by decide +kernel
theorem bt_int : bootBuiltins "int" = some (.type "int") := by decide +kernel
theorem bt_list : bootBuiltins "list" = some (.type "list") := by decide +kernel
theorem bt_tuple : bootBuiltins "tuple" = some (.type "tuple") := by decide +kernel
theorem bt_bool : bootBuiltins "bool" = some (.type "bool") := by decide +kernel
theorem bt_str : bootBuiltins "str" = some (.type "str") := by decide +kernel
theorem bt_dict : bootBuiltins "dict" = some (.type "dict") := by decide +kernel
theorem rm1 {k : Nat} {A : Around} (r : Room k A) : A.units + 1 < cLine := by have := r.un; omega
theorem rm64 {k : Nat} {A : Around} (r : Room k A) : A.units + 64 < cLine := by have := r.un; omega
theorem rm65 {k : Nat} {A : Around} (r : Room k A) : A.units + 65 < cLine := by have := r.un; omega
theorem rm66 {k : Nat} {A : Around} (r : Room k A) : A.units + 66 < cLine := by have := r.un; omega
theorem len_V {f : M D} {g : M (List Sl)} {n : Nat} (h : ∀ (s : S) (r : List Sl × S), g s = some r → r.1.length = n) : ∀ (s : S) (r : List Sl × S), cConsV f g s = some r → r.1.length = n + 1 := fun s r e => by
  obtain ⟨a, s1, _, e⟩ := bnd_inv e
  obtain ⟨as, s2, e2, e⟩ := bnd_inv e
  cases e
  exact congrArg (· + 1) (h _ _ e2)
theorem len_L {f : M (List D)} {g : M (List Sl)} {n : Nat} (h : ∀ (s : S) (r : List Sl × S), g s = some r → r.1.length = n) : ∀ (s : S) (r : List Sl × S), cConsL f g s = some r → r.1.length = n + 1 := fun s r e => by
  obtain ⟨a, s1, _, e⟩ := bnd_inv e
  obtain ⟨as, s2, e2, e⟩ := bnd_inv e
  cases e
  exact congrArg (· + 1) (h _ _ e2)
end DL
set_option Elab.async false
set_option linter.all false
set_option maxRecDepth 100000
set_option maxHeartbeats 4000000
/-! DL20: running what is printed, in plain Lean; the source's pick. -/
namespace DL.G
open PySem PySem.Spec L2 DL
open PyProof.Rows hiding St
section
variable [Zm]
/-! ### how each piece runs -/
section
variable {α β : Type} {s : S} {f : M D}
@[simp] theorem ev_ret (a : α) : ret a s = some (a, s) := rfl
@[simp] theorem ev_bnd (f : M α) (k : α → M β) : bnd f k s = (f s).bind fun p => k p.1 p.2 := by
  unfold bnd
  cases f s <;> rfl
@[simp] theorem ev_lft (o : Option α) : lft o s = o.map fun a => (a, s) := by
  unfold lft
  cases o <;> rfl
@[simp] theorem ev_C (d : D) : mC d s = some (d, s) := rfl
@[simp] theorem ev_Do : mDo f s = (f s).map fun p => (Od.d p.1, p.2) := by
  unfold mDo
  rw [ev_bnd]
  cases f s <;> rfl
@[simp] theorem ev_Var (i : Nat) (d : D) (h : s.1[i]? = some (some (.v d))) : mVar i s = some (d, s) := by
  unfold mVar
  rw [h]
@[simp] theorem ev_Slot (i : Nat) (sl : Sl) (h : s.1[i]? = some (some sl)) : mSlot i s = some (.i i, s) := by
  unfold mSlot
  rw [h]
@[simp] theorem ev_rd_d (e : DEnv) (d : D) : DL.rd e (.d d) = some d := rfl
@[simp] theorem ev_rd_i (e : DEnv) (i : Nat) : DL.rd e (.i i) = rdSl e[i]? := rfl
@[simp] theorem ev_sl_v (d : D) : rdSl (some (some (.v d))) = some d := rfl
@[simp] theorem ev_sl_l (ds : List D) : rdSl (some (some (.l ds))) = some (.list ds) := rfl
@[simp] theorem ev_rdM (p : Od) : rdM p s = (DL.rd s.1 p).map fun d => (d, s) := by
  unfold rdM
  rw [ev_lft]
@[simp] theorem ev_rdAll0 (e : DEnv) : rdAll [] e = some [] := rfl
@[simp] theorem ev_rdAll1 (e : DEnv) (p : Od) (ps : List Od) : rdAll (p :: ps) e = (DL.rd e p).bind fun d => (rdAll ps e).map fun ds => d :: ds := by
  rw [rdAll]
  cases DL.rd e p with
  | none => rfl
  | some d => cases rdAll ps e <;> rfl
@[simp] theorem ev_rdsM (ps : List Od) : rdsM ps s = (rdAll ps s.1).map fun ds => (ds, s) := by
  unfold rdsM
  rw [ev_lft]
@[simp] theorem ev_Op2 (r : D → D → Option D) (f g : M Od) : cOp2 r f g s = (f s).bind fun p => (g p.2).bind fun q => (DL.rd q.2.1 p.1).bind fun d => (DL.rd q.2.1 q.1).bind fun e => (r d e).map fun z => (z, q.2) := by
  unfold cOp2
  rw [ev_bnd]
  cases f s with
  | none => rfl
  | some p =>
    simp only [Option.bind_some, ev_bnd]
    cases g p.2 with
    | none => rfl
    | some q =>
      simp only [Option.bind_some, ev_bnd, ev_rdM]
      cases DL.rd q.2.1 p.1 with
      | none => rfl
      | some d =>
        simp only [Option.map_some, Option.bind_some, ev_bnd, ev_rdM]
        cases DL.rd q.2.1 q.1 with
        | none => rfl
        | some e => simp [ev_lft]
@[simp] theorem ev_N (r : List D → Option D) (f : M (List Od)) : cN r f s = (f s).bind fun p => (rdAll p.1 p.2.1).bind fun ds => (r ds).map fun z => (z, p.2) := by
  unfold cN
  rw [ev_bnd]
  cases f s with
  | none => rfl
  | some p =>
    simp only [Option.bind_some, ev_bnd, ev_rdsM]
    cases rdAll p.1 p.2.1 with
    | none => rfl
    | some ds => simp [ev_lft]
@[simp] theorem ev_FrN (r : List D → Option (List D)) (f : M (List Od)) : cFrN r f s = (f s).bind fun p => (rdAll p.1 p.2.1).bind fun ds => (r ds).map fun z => (z, p.2) := by
  unfold cFrN
  rw [ev_bnd]
  cases f s with
  | none => rfl
  | some p =>
    simp only [Option.bind_some, ev_bnd, ev_rdsM]
    cases rdAll p.1 p.2.1 with
    | none => rfl
    | some ds => simp [ev_lft]
@[simp] theorem ev_Cons (f : M α) (g : M (List α)) : cCons f g s = (f s).bind fun p => (g p.2).map fun q => (p.1 :: q.1, q.2) := by
  unfold cCons
  rw [ev_bnd]
  cases f s with
  | none => rfl
  | some p =>
    simp only [Option.bind_some, ev_bnd]
    cases g p.2 <;> rfl
@[simp] theorem ev_List (f : M (List D)) : cList f s = (f s).map fun p => (.list p.1, p.2) := by
  unfold cList
  rw [ev_bnd]
  cases f s <;> rfl
@[simp] theorem ev_short {xs : List α} (h : xs.length ≤ 16777216) : shortM xs s = some (xs, s) := by
  unfold shortM
  exact if_pos h
@[simp] theorem ev_Lst (f : M (List D)) : cLst f s = (f s).bind fun p => shortM p.1 p.2 := by
  unfold cLst
  rw [ev_bnd]
@[simp] theorem ev_Tup (f : M (List D)) : cTup f s = (f s).bind fun p => (shortM p.1 p.2).map fun q => (.tuple q.1, q.2) := by
  unfold cTup
  rw [ev_bnd]
  cases f s with
  | none => rfl
  | some p =>
    simp only [Option.bind_some, ev_bnd]
    cases shortM p.1 p.2 <;> rfl
@[simp] theorem ev_B (f : M D) : cB f s = (f s).bind fun p => bolM p.1 p.2 := by
  unfold cB
  rw [ev_bnd]
@[simp] theorem ev_bol (b : Bool) : bolM (.bool b) s = some (b, s) := rfl
@[simp] theorem ev_And (f g : M Bool) : cAnd f g s = (f s).bind fun p => if p.1 = true then g p.2 else some (false, p.2) := by
  unfold cAnd
  rw [ev_bnd]
  cases f s with
  | none => rfl
  | some p => cases h : p.1 <;> simp [h]
@[simp] theorem ev_Or (f g : M Bool) : cOr f g s = (f s).bind fun p => if p.1 = true then some (true, p.2) else g p.2 := by
  unfold cOr
  rw [ev_bnd]
  cases f s with
  | none => rfl
  | some p => cases h : p.1 <;> simp [h]
@[simp] theorem ev_Not (f : M Bool) : cNot f s = (f s).map fun p => (!p.1, p.2) := by
  unfold cNot
  rw [ev_bnd]
  cases f s <;> rfl
@[simp] theorem ev_If (t : M Bool) (f g : M α) : cIf t f g s = (t s).bind fun p => if p.1 = true then f p.2 else g p.2 := by
  unfold cIf
  rw [ev_bnd]
  cases t s with
  | none => rfl
  | some p => cases h : p.1 <;> simp [h]
@[simp] theorem ev_AndV (f g : M D) : cAndV f g s = (f s).bind fun p => (bolM p.1 p.2).bind fun q => if q.1 = true then g q.2 else some (.bool false, q.2) := by
  unfold cAndV
  rw [ev_bnd]
  cases f s with
  | none => rfl
  | some p =>
    simp only [Option.bind_some, ev_bnd]
    cases bolM p.1 p.2 with
    | none => rfl
    | some q => cases h : q.1 <;> simp [h]
@[simp] theorem ev_NotV : cNotV f s = (f s).bind fun p => (bolM p.1 p.2).map fun q => (.bool (!q.1), q.2) := by
  unfold cNotV
  rw [ev_bnd]
  cases f s with
  | none => rfl
  | some p =>
    simp only [Option.bind_some, ev_bnd]
    cases bolM p.1 p.2 <;> rfl
@[simp] theorem ev_Neg : cNeg f s = (f s).bind fun p => (negD p.1).map fun d => (d, p.2) := by
  unfold cNeg
  rw [ev_bnd]
  cases f s <;> simp
@[simp] theorem ev_skp : skp s = some (.nx, s) := rfl
@[simp] theorem ev_Ret : cRet f s = (f s).map fun p => (.rt p.1, p.2) := by
  unfold cRet
  rw [ev_bnd]
  cases f s <;> rfl
@[simp] theorem ev_Drop : cDrop f s = (f s).map fun p => (.nx, p.2) := by
  unfold cDrop
  rw [ev_bnd]
  cases f s <;> rfl
@[simp] theorem ev_Rel (i : Nat) (g : M Fl) : cRel i g s = g (relE i s.1, s.2) := rfl
/-- one statement after another -/
def seqK (g : M Fl) : Fl → M Fl
  | .nx => g
  | .bk => ret .bk
  | .ct => ret .ct
  | .rt d => ret (.rt d)
@[simp] theorem ev_seq_nx (g : M Fl) : seqK g .nx s = g s := rfl
@[simp] theorem ev_seq_rt (g : M Fl) (d : D) : seqK g (.rt d) s = some (.rt d, s) := rfl
@[simp] theorem ev_Seq (f g : M Fl) : cSeq f g s = (f s).bind fun p => seqK g p.1 p.2 := by
  unfold cSeq
  rw [ev_bnd]
  cases f s with
  | none => rfl
  | some p => cases h : p.1 <;> simp [h, seqK]
@[simp] theorem ev_putM (i : Nat) (sl : Sl) (h : i < s.1.length) : putM i sl s = some ((), (s.1.set i (some sl), s.2)) := by
  unfold putM
  rw [if_pos h]
@[simp] theorem ev_Set (i : Nat) : cSet i f s = (f s).bind fun p => (putM i (.v p.1) p.2).map fun q => (.nx, q.2) := by
  unfold cSet
  rw [ev_bnd]
  cases f s with
  | none => rfl
  | some p =>
    simp only [Option.bind_some, ev_bnd]
    cases putM i (.v p.1) p.2 <;> rfl
@[simp] theorem ev_SetL (i : Nat) (f : M (List D)) : cSetL i f s = (f s).bind fun p => (putM i (.l p.1) p.2).map fun q => (.nx, q.2) := by
  unfold cSetL
  rw [ev_bnd]
  cases f s with
  | none => rfl
  | some p =>
    simp only [Option.bind_some, ev_bnd]
    cases putM i (.l p.1) p.2 <;> rfl
@[simp] theorem ev_isS (i : Nat) (h : s.1[i]? = some (some .s)) : isS i s = some ((), s) := by
  unfold isS
  rw [h]
@[simp] theorem ev_srcGet (i : Nat) (k : SK) : mSrcGet i k s = (isS i s).map fun p => (.int (k.get p.2.2), p.2) := by
  unfold mSrcGet bnd
  cases isS i s <;> rfl
@[simp] theorem ev_srcLen (i : Nat) : mSrcLen i s = (isS i s).map fun p => (.int p.2.2.cells.length, p.2) := by
  unfold mSrcLen bnd
  cases isS i s <;> rfl
@[simp] theorem ev_intM (n : Int) : intM (.int n) s = some (n, s) := rfl
@[simp] theorem ev_srcSet (i : Nat) (k : SK) : cSrcSet i k f s = (f s).bind fun p => (intM p.1 p.2).bind fun q => (isS i q.2).map fun r => (.nx, (r.2.1, k.put r.2.2 q.1)) := by
  unfold cSrcSet
  rw [ev_bnd]
  cases f s with
  | none => rfl
  | some p =>
    simp only [Option.bind_some, ev_bnd]
    cases intM p.1 p.2 with
    | none => rfl
    | some q =>
      show bnd (isS i) (fun _ s => some (Fl.nx, (s.1, k.put s.2 q.1))) q.2 = (isS i q.2).map fun r => (Fl.nx, (r.2.1, k.put r.2.2 q.1))
      unfold bnd
      cases isS i q.2 <;> rfl
@[simp] theorem ev_srcPop (i : Nat) : mSrcPop i s = (isS i s).bind fun p => (popSrc p.2.2).map fun r => (.int r.1, (p.2.1, r.2)) := by
  unfold mSrcPop bnd
  cases isS i s with
  | none => rfl
  | some p =>
    show (match popSrc p.2.2 with | some r => some (PyData.int r.1, (p.2.1, r.2)) | none => none) = (popSrc p.2.2).map fun r => (PyData.int r.1, (p.2.1, r.2))
    cases popSrc p.2.2 <;> rfl
@[simp] theorem ev_gt (i j : Int) : gtD (.int i) (.int j) = some (.bool (decide (j < i))) := rfl
@[simp] theorem ev_lt (i j : Int) : ltD (.int i) (.int j) = some (.bool (decide (i < j))) := rfl
@[simp] theorem ev_ge (i j : Int) : geD (.int i) (.int j) = some (.bool (decide (j ≤ i))) := rfl
@[simp] theorem ev_le (i j : Int) : leD (.int i) (.int j) = some (.bool (decide (i ≤ j))) := rfl
@[simp] theorem ev_add (i j : Int) : addD (.int i) (.int j) = some (.int (i + j)) := rfl
@[simp] theorem ev_sub (i j : Int) : subD (.int i) (.int j) = some (.int (i - j)) := rfl
theorem ev_mul {i j : Int} (h : mulOk i j) : mulD (.int i) (.int j) = some (.int (i * j)) := by
  show (if mulOk i j then _ else _) = _
  rw [if_pos h]
theorem ev_mulR {i j : Int} (h : j.natAbs < 4611686018427387904) : mulD (.int i) (.int j) = some (.int (i * j)) := ev_mul (.inr (.inl h))
theorem ev_mulL {i j : Int} (h : i.natAbs < 4611686018427387904) : mulD (.int i) (.int j) = some (.int (i * j)) := ev_mul (.inl h)
theorem ev_mod {i j : Int} (h : 0 < j) : modD (.int i) (.int j) = some (.int (i % j)) := by
  show (if 0 < j then _ else _) = _
  rw [if_pos h]
theorem ev_fdiv {i j : Int} (h : 0 < j) (h2 : j.natAbs.log2 < 9000) : fdivD (.int i) (.int j) = some (.int (i / j)) := by
  show (if 0 < j ∧ j.natAbs.log2 < 9000 then _ else _) = _
  rw [if_pos ⟨h, h2⟩]
@[simp] theorem ev_int (i : Int) : intN [.int i] = some (.int i) := rfl
@[simp] theorem ev_max2 (i j : Int) : max2N [.int i, .int j] = some (.int (if j > i then j else i)) := rfl
@[simp] theorem ev_min2 (i j : Int) : min2N [.int i, .int j] = some (.int (if j < i then j else i)) := rfl
@[simp] theorem ev_len_l (ds : List D) : lenN [.list ds] = some (.int ds.length) := rfl
@[simp] theorem ev_len_t (ds : List D) : lenN [.tuple ds] = some (.int ds.length) := rfl
@[simp] theorem ev_tupN_l (ds : List D) : tupN [.list ds] = some (.tuple ds) := rfl
@[simp] theorem ev_tupN_t (ds : List D) : tupN [.tuple ds] = some (.tuple ds) := rfl
@[simp] theorem ev_listN_l (ds : List D) : listN [.list ds] = some ds := rfl
@[simp] theorem ev_listN_t (ds : List D) : listN [.tuple ds] = some ds := rfl
end
noncomputable def law_pick_w1 : M Fl := (cSeq (cSrcSet 0 .left (mSrcPop 0)) skp)
noncomputable def pick_t : M Bool := (cAnd (cB (cOp2 gtD (mSlot 1) (mDo (mC (.int 1))))) (cAnd (cB (cOp2 ltD (mDo (mSrcGet 0 .left)) (mDo (mC (.int 2))))) (cB (cOp2 gtD (mDo (mSrcLen 0)) (mDo (mC (.int 0)))))))
noncomputable def g_law_pick : M Fl := (cSeq (cWhile (cAnd (cB (cOp2 gtD (mSlot 1) (mDo (mC (.int 1))))) (cAnd (cB (cOp2 ltD (mDo (mSrcGet 0 .left)) (mDo (mC (.int 2))))) (cB (cOp2 gtD (mDo (mSrcLen 0)) (mDo (mC (.int 0))))))) law_pick_w1) (cSeq (cSet 2 (mSrcGet 0 .left)) (cSeq (cIf (cOr (cB (cOp2 ltD (mSlot 1) (mDo (mC (.int 2))))) (cB (cOp2 gtD (mSlot 2) (mDo (mC (.int 1)))))) (cSeq (cSrcSet 0 .left (cOp2 fdivD (mSlot 2) (mDo (cN max2N (cCons (mDo (mC (.int 1))) (cCons (mSlot 1) (ret []))))))) (cSeq (cRet (cOp2 modD (mDo (cN intN (cCons (mSlot 2) (ret [])))) (mDo (cN max2N (cCons (mDo (mC (.int 1))) (cCons (mSlot 1) (ret []))))))) skp)) skp) (cSeq (cSrcSet 0 .turn (cOp2 addD (mDo (mSrcGet 0 .turn)) (mDo (mC (.int 1))))) (cSeq (cSet 3 (cOp2 modD (mDo (cN intN (cCons (mDo (cOp2 addD (mDo (mSrcGet 0 .mixed)) (mDo (cOp2 mulD (mDo (mSrcGet 0 .turn)) (mDo (mC (.int 104729))))))) (ret [])))) (mDo (mC (.int 998244353))))) (cSeq (cSet 3 (cOp2 modD (mDo (cN intN (cCons (mDo (cOp2 addD (mDo (cOp2 mulD (mSlot 3) (mSlot 3))) (mDo (cOp2 mulD (mDo (mSrcGet 0 .turn)) (mDo (mC (.int 17))))))) (ret [])))) (mDo (mC (.int 2147483647))))) (cSeq (cSrcSet 0 .mixed (mVar 3)) (cSeq (cRet (cOp2 modD (mDo (cN intN (cCons (mDo (cOp2 fdivD (mSlot 3) (mDo (mC (.int 16))))) (ret [])))) (mSlot 1))) skp))))))))
noncomputable def phi_law_pick : Phi := φOf 4 g_law_pick
abbrev pkE (many : Int) : DEnv := [some .s, some (.v (.int many)), none, none]
theorem pick_tt (st : Src) (many : Int) : (cAnd (cB (cOp2 gtD (mSlot 1) (mDo (mC (.int 1))))) (cAnd (cB (cOp2 ltD (mDo (mSrcGet 0 .left)) (mDo (mC (.int 2))))) (cB (cOp2 gtD (mDo (mSrcLen 0)) (mDo (mC (.int 0))))))) (pkE many, st) = some (decide (1 < many) && (decide (st.left < 2) && decide ((0 : Int) < st.cells.length)), (pkE many, st)) := by
  have e : SK.get .left st = st.left := rfl
  by_cases h : 1 < many <;> by_cases h2 : st.left < 2 <;> simp [h, h2, e]
theorem pick_w (many : Int) : ∀ (n : Nat) (st : Src), st.cells.length = n → ∃ st', whF (cAnd (cB (cOp2 gtD (mSlot 1) (mDo (mC (.int 1))))) (cAnd (cB (cOp2 ltD (mDo (mSrcGet 0 .left)) (mDo (mC (.int 2))))) (cB (cOp2 gtD (mDo (mSrcLen 0)) (mDo (mC (.int 0))))))) law_pick_w1 (n + 1) (pkE many, st) = some (.nx, (pkE many, st'))
  | 0, st, h => by
    refine ⟨st, ?_⟩
    rw [whF_succ, ev_bnd, pick_tt, h]
    simp
  | n + 1, st, h => by
    rw [whF_succ, ev_bnd, pick_tt]
    by_cases hb : (decide (1 < many) && (decide (st.left < 2) && decide ((0 : Int) < st.cells.length))) = true
    · obtain ⟨c, hc⟩ : ∃ c, st.cells.getLast? = some c := by
        cases e : st.cells.getLast? with
        | none =>
          have := List.getLast?_eq_none_iff.mp e
          rw [this] at h
          cases h
        | some c => exact ⟨c, rfl⟩
      obtain ⟨st', e⟩ := pick_w many n { st with cells := st.cells.dropLast, left := c } (by simp [h])
      refine ⟨st', ?_⟩
      have eb : law_pick_w1 (pkE many, st) = some (.nx, (pkE many, { st with cells := st.cells.dropLast, left := c })) := by
        simp [law_pick_w1, popSrc, hc, SK.put]
      rw [hb]
      simp only [Option.bind_some, if_true, ev_bnd, eb, flK]
      exact e
    · refine ⟨st, ?_⟩
      rw [Bool.not_eq_true] at hb
      rw [hb]
      simp
theorem pick_spec (st : Src) (many : Int) (hm : many.natAbs.log2 < 9000) : ∃ r st', phi_law_pick [.s, .d (.int many)] st = some (.int r, st') ∧ 0 ≤ r ∧ r < max 1 many := by
  obtain ⟨st1, e1⟩ := pick_w many _ st rfl
  have e1 := cWhile_eq e1
  have em : (if many > 1 then many else 1) = max 1 many := by
    by_cases h : many > 1
    · rw [if_pos h]; omega
    · rw [if_neg h]; omega
  have ep : (0 : Int) < max 1 many := by omega
  have el : (max 1 many).natAbs.log2 < 9000 := by
    by_cases h : many > 1
    · rw [show max 1 many = many by omega]; exact hm
    · rw [show max 1 many = 1 by omega]; decide
  have key : ∃ r st', g_law_pick (pkE many, st) = some (.rt (.int r), st') ∧ 0 ≤ r ∧ r < max 1 many := by
    unfold g_law_pick
    rw [ev_Seq, e1]
    simp only [Option.bind_some, ev_seq_nx]
    by_cases h1 : many < 2
    · refine ⟨st1.left % max 1 many, ?_⟩
      simp [h1, em, SK.get, SK.put, ev_mod ep, ev_fdiv ep el, Int.emod_nonneg _ (Int.ne_of_gt ep), Int.emod_lt_of_pos _ ep]
    · by_cases h2 : 1 < st1.left
      · refine ⟨st1.left % max 1 many, ?_⟩
        simp [h1, h2, em, SK.get, SK.put, ev_mod ep, ev_fdiv ep el, Int.emod_nonneg _ (Int.ne_of_gt ep), Int.emod_lt_of_pos _ ep]
      · have hq : (0 : Int) < many := by omega
        have hx : (((st1.mixed + (st1.turn + 1) * 104729) % 998244353).natAbs < 4611686018427387904) := by omega
        let m1 := (st1.mixed + (st1.turn + 1) * 104729) % 998244353
        let m2 := (m1 * m1 + (st1.turn + 1) * 17) % 2147483647
        refine ⟨m2 / 16 % many, ([some .s, some (.v (.int many)), some (.v (.int st1.left)), some (.v (.int m2))], { st1 with turn := st1.turn + 1, mixed := m2 }), ?_, Int.emod_nonneg _ (Int.ne_of_gt hq), ?_⟩
        · have h16 : ∀ i : Int, fdivD (.int i) (.int 16) = some (.int (i / 16)) := fun i => ev_fdiv (by decide) (by decide)
          simp [h1, h2, SK.get, SK.put, ev_mulR, ev_mod, ev_mulL hx, h16, hq, m1, m2]
        · have := Int.emod_lt_of_pos (m2 / 16) hq
          omega
  obtain ⟨r, st', e, h⟩ := key
  refine ⟨r, st'.2, ?_, h⟩
  have e' : g_law_pick ([Ar.s, Ar.d (.int many)].map arSl ++ List.replicate (4 - [Ar.s, Ar.d (.int many)].length) none, st) = some (.rt (.int r), st') := e
  unfold phi_law_pick φOf
  rw [e']
end
end DL.G
set_option Elab.async false
set_option linter.all false
set_option maxRecDepth 100000
set_option maxHeartbeats 4000000
/-! DL21: running loops and lists of things, in plain Lean. -/
namespace DL.G
open PySem PySem.Spec L2 DL
open PyProof.Rows hiding St
section
variable [Zm] {α β : Type} {s : S} {f : M D}
@[simp] theorem ev_Call (φ : Phi) (f : M (List Od)) : cCall φ f s = (f s).bind fun p => (resA p.2.1 p.1).bind fun q => (φ q.1 p.2.2).bind fun r => if (q.2 && !atom r.1) = true then none else some (r.1, (p.2.1, r.2)) := by
  unfold cCall bnd
  cases f s with
  | none => rfl
  | some p =>
    simp only [Option.bind_some]
    cases resA p.2.1 p.1 with
    | none => rfl
    | some q =>
      simp only [Option.bind_some]
      cases φ q.1 p.2.2 <;> rfl
@[simp] theorem ev_resA0 (e : DEnv) : resA e [] = some ([], false) := rfl
@[simp] theorem ev_resAd (e : DEnv) (d : D) (ps : List Od) : resA e (.d d :: ps) = (resA e ps).map fun q => (.d d :: q.1, q.2) := by
  rw [resA]
  cases resA e ps <;> rfl
@[simp] theorem ev_resAi (e : DEnv) (i : Nat) (ps : List Od) (d : D) (h : e[i]? = some (some (.v d))) : resA e (.i i :: ps) = (resA e ps).map fun q => (.d d :: q.1, q.2) := by
  rw [resA, h]
  cases resA e ps <;> rfl
@[simp] theorem ev_resAs (e : DEnv) (i : Nat) (ps : List Od) (h : e[i]? = some (some .s)) : resA e (.i i :: ps) = (resA e ps).map fun q => (.s :: q.1, q.2) := by
  rw [resA, h]
  cases resA e ps <;> rfl
@[simp] theorem ev_resAl (e : DEnv) (i : Nat) (ps : List Od) (ds : List D) (h : e[i]? = some (some (.l ds))) : resA e (.i i :: ps) = (resA e ps).map fun q => (.d (.list ds) :: q.1, true) := by
  rw [resA, h]
  cases resA e ps <;> rfl
theorem phi_of {n : Nat} {g : M Fl} {as : List Ar} {st : Src} {d : D} {s' : S} (h : g (as.map arSl ++ List.replicate (n - as.length) none, st) = some (.rt d, s')) : φOf n g as st = some (d, s'.2) := by
  unfold φOf
  rw [h]
@[simp] theorem ev_It (r : List D → Option (List D)) (f : M (List D)) : cIt r f s = (f s).bind fun p => (r p.1).map fun z => (z, p.2) := by
  unfold cIt
  rw [ev_bnd]
  cases f s <;> simp
@[simp] theorem ev_seqM_l (ds : List D) : seqM (.list ds) s = some (ds, s) := rfl
@[simp] theorem ev_seqM_t (ds : List D) : seqM (.tuple ds) s = some (ds, s) := rfl
@[simp] theorem ev_SeqI (f : M D) : cSeqI f s = (f s).bind fun p => seqM p.1 p.2 := by
  unfold cSeqI
  rw [ev_bnd]
@[simp] theorem ev_Fr2 (r : D → D → Option (List D)) (f g : M Od) : cFr2 r f g s = (f s).bind fun p => (g p.2).bind fun q => (DL.rd q.2.1 p.1).bind fun d => (DL.rd q.2.1 q.1).bind fun e => (r d e).map fun z => (z, q.2) := by
  unfold cFr2
  rw [ev_bnd]
  cases f s with
  | none => rfl
  | some p =>
    simp only [Option.bind_some, ev_bnd]
    cases g p.2 with
    | none => rfl
    | some q =>
      simp only [Option.bind_some, ev_bnd, ev_rdM]
      cases DL.rd q.2.1 p.1 with
      | none => rfl
      | some d =>
        simp only [Option.map_some, Option.bind_some, ev_bnd, ev_rdM]
        cases DL.rd q.2.1 q.1 with
        | none => rfl
        | some e => simp [ev_lft]
@[simp] theorem ev_Lrg1 (f : M D) : cLrg1 f s = (f s).bind fun p => (rg1 p.1).map fun z => (z, p.2) := by
  unfold cLrg1
  rw [ev_bnd]
  cases f s <;> simp
theorem ev_For (it : M (List D)) (g : D → DEnv → Option DEnv) (b : M Fl) : cFor it g b s = (it s).bind fun p => forL g b p.1 p.2 := by
  unfold cFor
  rw [ev_bnd]
theorem ev_Lc (it : M (List D)) (g : D → DEnv → Option DEnv) (t : M Bool) (el : M D) (vs : List Nat) (xs : List D) (s1 : S) (h : it s = some (xs, s1)) (hn : xs.length ≤ 16777216) (ys : List D) (e : DEnv) (st' : Src)
    (hc : compL g t el vs xs [] (wipeE s1.1 vs, s1.2) = some (ys, (e, st'))) :
    cLc it g t el vs s = some (ys, (restE s1.1 vs e, st')) := by
  refine (bnd_eq h).trans ((bnd_eq (ev_short hn)).trans ?_)
  show (match compL g t el vs xs [] (wipeE s1.1 vs, s1.2) with | none => none | some p => some (p.1, (restE s1.1 vs p.2.1, p.2.2))) = _
  rw [hc]
section
variable {g : D → DEnv → Option DEnv} {t : M Bool} {el : M D} {vs : List Nat} {e0 e1 e2 e3 : DEnv} {st st2 st3 : Src} {x y : D} {xs acc : List D}
theorem comp_cons (h1 : g x e0 = some e1) : compL g t el vs (x :: xs) acc (e0, st) = bnd t (fun b => if b then bnd el (fun y s3 => compL g t el vs xs (acc ++ [y]) (wipeE s3.1 vs, s3.2)) else fun s3 => compL g t el vs xs acc (wipeE s3.1 vs, s3.2)) (e1, st) := by
  rw [compL]
  show (match g x e0 with | none => none | some env' => bnd t (fun b => if b then bnd el (fun y s3 => compL g t el vs xs (acc ++ [y]) (wipeE s3.1 vs, s3.2)) else fun s3 => compL g t el vs xs acc (wipeE s3.1 vs, s3.2)) (env', st)) = _
  rw [h1]
theorem comp_tt (h1 : g x e0 = some e1) (h2 : t (e1, st) = some (true, (e2, st2))) (h3 : el (e2, st2) = some (y, (e3, st3))) : compL g t el vs (x :: xs) acc (e0, st) = compL g t el vs xs (acc ++ [y]) (wipeE e3 vs, st3) :=
  (comp_cons h1).trans ((bnd_eq h2).trans (bnd_eq (f := el) (k := fun y s3 => compL g t el vs xs (acc ++ [y]) (wipeE s3.1 vs, s3.2)) h3))
theorem comp_ff (h1 : g x e0 = some e1) (h2 : t (e1, st) = some (false, (e2, st2))) : compL g t el vs (x :: xs) acc (e0, st) = compL g t el vs xs acc (wipeE e2 vs, st2) :=
  (comp_cons h1).trans (bnd_eq h2)
end
/-- a list of things, each worked out with no change -/
theorem comp_map {g : D → DEnv → Option DEnv} {el : M D} {vs : List Nat} {e0 : DEnv} {st : Src} (h : D → D) : ∀ (xs acc : List D), (∀ x ∈ xs, ∃ e1 e2, g x e0 = some e1 ∧ el (e1, st) = some (h x, (e2, st)) ∧ wipeE e2 vs = e0) →
    compL g (ret true) el vs xs acc (e0, st) = some (acc ++ xs.map h, (e0, st))
  | [], acc, _ => by simp [compL]
  | x :: xs, acc, H => by
    obtain ⟨e1, e2, h1, h2, h3⟩ := H x List.mem_cons_self
    have ih := comp_map h xs (acc ++ [h x]) fun y hy => H y (List.mem_cons_of_mem _ hy)
    rw [comp_tt h1 (ev_ret true) h2, h3, ih]
    simp
/-- a list of things, each worked out with no change; some left out -/
theorem comp_fil {g : D → DEnv → Option DEnv} {t : M Bool} {el : M D} {vs : List Nat} {e0 : DEnv} {st : Src} (w : D → Bool) (h : D → D) : ∀ (xs acc : List D), (∀ x ∈ xs, ∃ e1 e2, g x e0 = some e1 ∧ t (e1, st) = some (w x, (e2, st)) ∧ wipeE e2 vs = e0 ∧ (w x = true → ∃ e3, el (e2, st) = some (h x, (e3, st)) ∧ wipeE e3 vs = e0)) →
    compL g t el vs xs acc (e0, st) = some (acc ++ (xs.filter w).map h, (e0, st))
  | [], acc, _ => by simp [compL]
  | x :: xs, acc, H => by
    obtain ⟨e1, e2, h1, h2, h3, h4⟩ := H x List.mem_cons_self
    have H' := fun y hy => H y (List.mem_cons_of_mem x hy)
    cases hw : w x with
    | false =>
      rw [hw] at h2
      rw [comp_ff h1 h2, h3, comp_fil w h xs acc H', List.filter_cons, hw]
      simp
    | true =>
      obtain ⟨e3, h4, h5⟩ := h4 hw
      rw [hw] at h2
      rw [comp_tt h1 h2 h4, h5, comp_fil w h xs (acc ++ [h x]) H', List.filter_cons, hw]
      simp
inductive All2 (R : D → D → Prop) : List D → List D → Prop
  | nil : All2 R [] []
  | cons {x y : D} {xs ys : List D} : R x y → All2 R xs ys → All2 R (x :: xs) (y :: ys)
theorem All2.length {R : D → D → Prop} : ∀ {xs ys : List D}, All2 R xs ys → ys.length = xs.length
  | _, _, .nil => rfl
  | _, _, .cons _ r => congrArg (· + 1) r.length
theorem All2.right {R : D → D → Prop} {P : D → Prop} (h : ∀ x y, R x y → P y) : ∀ {xs ys : List D}, All2 R xs ys → ∀ y ∈ ys, P y
  | _, _, .nil => fun _ q => nomatch q
  | _, _, .cons r rs => fun y q => by
    rcases List.mem_cons.mp q with q | q
    · rw [q]; exact h _ _ r
    · exact rs.right h y q
/-- a list of things, each of which may change the source -/
theorem comp_src {g : D → DEnv → Option DEnv} {el : M D} {vs : List Nat} {e0 : DEnv} (R : D → D → Prop) : ∀ (xs acc : List D) (st : Src), (∀ x ∈ xs, ∀ st, ∃ e1 e2 y st', g x e0 = some e1 ∧ el (e1, st) = some (y, (e2, st')) ∧ wipeE e2 vs = e0 ∧ R x y) →
    ∃ ys st', compL g (ret true) el vs xs acc (e0, st) = some (acc ++ ys, (e0, st')) ∧ All2 R xs ys
  | [], acc, st, _ => ⟨[], st, by simp [compL], .nil⟩
  | x :: xs, acc, st, H => by
    obtain ⟨e1, e2, y, st1, h1, h2, h3, h4⟩ := H x List.mem_cons_self st
    obtain ⟨ys, st', ih, hr⟩ := comp_src R xs (acc ++ [y]) st1 fun z hz => H z (List.mem_cons_of_mem _ hz)
    refine ⟨y :: ys, st', ?_, .cons h4 hr⟩
    rw [comp_tt h1 (ev_ret true) h2, h3, ih]
    simp
theorem for_cons {g : D → DEnv → Option DEnv} {b : M Fl} {x : D} {xs : List D} {s s2 : S} {e1 : DEnv} (h1 : g x s.1 = some e1) (h2 : b (e1, s.2) = some (.nx, s2)) : forL g b (x :: xs) s = forL g b xs s2 := by
  rw [forL]
  show (match g x s.1 with | none => none | some env' => bnd b (flK (forL g b xs)) (env', s.2)) = _
  rw [h1]
  exact bnd_eq h2
/-- a loop that runs to its end -/
theorem for_inv {g : D → DEnv → Option DEnv} {b : M Fl} (R : List D → S → Prop) : ∀ (xs : List D) (s : S), R xs s → (∀ x xs s, R (x :: xs) s → ∃ e1 s2, g x s.1 = some e1 ∧ b (e1, s.2) = some (.nx, s2) ∧ R xs s2) → ∃ s', forL g b xs s = some (.nx, s') ∧ R [] s'
  | [], s, h, _ => ⟨s, rfl, h⟩
  | x :: xs, s, h, H => by
    obtain ⟨e1, s2, h1, h2, h3⟩ := H x xs s h
    obtain ⟨s', h4, h5⟩ := for_inv R xs s2 h3 H
    exact ⟨s', (for_cons h1 h2).trans h4, h5⟩
end
end DL.G
set_option Elab.async false
set_option linter.all false
set_option maxRecDepth 100000
set_option maxHeartbeats 4000000
/-! DL22: small data; rows given by a function. -/
namespace DL.G
open PySem PySem.Spec L2 DL
open PyProof.Rows hiding St
/-- data no deeper than k and no heavier than w, shown in short -/
structure Sm (k w : Nat) (d : D) : Prop where
  lay : PyData.canLay0 d = true
  dep : PyData.depth d ≤ k
  wt : PyData.weight d ≤ w
  sh : PyData.showable d = true
  ish : PyData.intsShort 13 d = true
structure SmA (k w : Nat) (ds : List D) : Prop where
  lay : PyData.canLayAll0 ds = true
  dep : PyData.depthAll ds ≤ k
  wt : PyData.weightAll ds ≤ w
  sh : PyData.showableAll ds = true
  ish : PyData.intsShortAll 13 ds = true
theorem Sm.up {k k' w w' : Nat} {d : D} (h : Sm k w d) (hk : k ≤ k' := by omega) (hw : w ≤ w' := by omega) : Sm k' w' d :=
  ⟨h.lay, Nat.le_trans h.dep hk, Nat.le_trans h.wt hw, h.sh, h.ish⟩
theorem SmA.up {k k' w w' : Nat} {d : List D} (h : SmA k w d) (hk : k ≤ k' := by omega) (hw : w ≤ w' := by omega) : SmA k' w' d :=
  ⟨h.lay, Nat.le_trans h.dep hk, Nat.le_trans h.wt hw, h.sh, h.ish⟩
theorem SmA.nil {k : Nat} : SmA k 0 [] := ⟨rfl, Nat.zero_le _, Nat.le_refl _, rfl, rfl⟩
theorem SmA.cons {k w w' : Nat} {d : D} {ds : List D} (h : Sm k w d) (r : SmA k w' ds) : SmA k (w + 1 + w') (d :: ds) := by
  refine ⟨?_, ?_, ?_, ?_, ?_⟩
  · rw [PyData.canLayAll0, h.lay, r.lay]; rfl
  · rw [PyData.depthAll]; exact Nat.max_le.mpr ⟨h.dep, r.dep⟩
  · rw [PyData.weightAll]; have := h.wt; have := r.wt; omega
  · rw [PyData.showableAll, h.sh, r.sh]; rfl
  · rw [PyData.intsShortAll, h.ish, r.ish]; rfl
theorem SmA.of {k w : Nat} : ∀ {ds : List D}, (∀ d ∈ ds, Sm k w d) → SmA k (ds.length * (w + 1)) ds
  | [], _ => by simpa using SmA.nil
  | d :: ds, h => by
    have := SmA.cons (h d List.mem_cons_self) (SmA.of (ds := ds) fun e he => h e (List.mem_cons_of_mem _ he))
    refine this.up (Nat.le_refl _) ?_
    rw [List.length_cons, Nat.succ_mul]; omega
theorem SmA.app {k w w' : Nat} : ∀ {ds es : List D}, SmA k w ds → SmA k w' es → SmA k (w + w') (ds ++ es)
  | [], es, h, r => r.up (Nat.le_refl _) (by omega)
  | d :: ds, es, h, r => by
    have h1 := h.lay
    have h2 := h.dep
    have h3 := h.wt
    have h4 := h.sh
    have h5 := h.ish
    rw [PyData.canLayAll0, Bool.and_eq_true] at h1
    rw [PyData.depthAll] at h2
    rw [PyData.weightAll] at h3
    rw [PyData.showableAll, Bool.and_eq_true] at h4
    rw [PyData.intsShortAll, Bool.and_eq_true] at h5
    have a : Sm k d.weight d := ⟨h1.1, (Nat.max_le.mp h2).1, Nat.le_refl _, h4.1, h5.1⟩
    have b : SmA k (PyData.weightAll ds) ds := ⟨h1.2, (Nat.max_le.mp h2).2, Nat.le_refl _, h4.2, h5.2⟩
    exact (SmA.cons a (b.app r)).up (Nat.le_refl _) (by omega)
theorem Sm.list {k w : Nat} {ds : List D} (h : SmA k w ds) : Sm (k + 1) w (.list ds) := by
  refine ⟨?_, ?_, ?_, ?_, ?_⟩
  · rw [PyData.canLay0]; exact h.lay
  · rw [PyData.depth]; have := h.dep; omega
  · rw [PyData.weight]; exact h.wt
  · rw [PyData.showable]; exact h.sh
  · rw [PyData.intsShort]; exact h.ish
theorem Sm.tuple {k w : Nat} {ds : List D} (h : SmA k w ds) : Sm (k + 1) w (.tuple ds) := by
  refine ⟨?_, ?_, ?_, ?_, ?_⟩
  · rw [PyData.canLay0]; exact h.lay
  · rw [PyData.depth]; have := h.dep; omega
  · rw [PyData.weight]; exact h.wt
  · rw [PyData.showable]; exact h.sh
  · rw [PyData.intsShort]; exact h.ish
theorem Sm.int {k : Nat} {i : Int} (h : i.natAbs < 10 ^ 12) : Sm k 41 (.int i) := by
  have hl : i.natAbs.log2 ≤ 40 := by
    by_cases h0 : i.natAbs = 0
    · rw [h0]; decide
    · have := (Nat.log2_lt h0).mpr (show i.natAbs < 2 ^ 41 by omega)
      omega
  refine ⟨by rw [PyData.canLay0], by rw [PyData.depth]; omega, ?_, ?_, ?_⟩
  · rw [PyData.weight]
    split <;> omega
  · rw [PyData.showable]
    simp; omega
  · rw [PyData.intsShort]
    exact decide_eq_true (PyData.shown_int_le h)
theorem Sm.bool {k : Nat} {b : Bool} : Sm k 0 (.bool b) := ⟨by rw [PyData.canLay0], by rw [PyData.depth]; omega, by rw [PyData.weight]; omega, by rw [PyData.showable], by rw [PyData.intsShort]⟩
theorem Sm.none {k : Nat} : Sm k 0 .none := ⟨by rw [PyData.canLay0], by rw [PyData.depth]; omega, by rw [PyData.weight]; omega, by rw [PyData.showable], by rw [PyData.intsShort]⟩
theorem Sm.str {k w : Nat} {x : Str} (h : PyData.strOk x = true) (hw : x.cps.size ≤ w) : Sm k w (.str x) := ⟨by rw [PyData.canLay0]; exact h, by rw [PyData.depth]; omega, by rw [PyData.weight]; exact hw, by rw [PyData.showable], by rw [PyData.intsShort]⟩
theorem Sm.shp {k w : Nat} {d : D} (h : Sm k w d) (hk : k ≤ 64 := by omega) : shp d = true := by
  unfold DL.shp
  rw [PyData.plain_of_canLay0 d h.lay, decide_eq_true (Nat.le_trans h.dep hk)]
  rfl
theorem Sm.repr [Zm] {k w : Nat} {d : D} (h : Sm k w d) (hk : k ≤ 64 := by omega) (hw : w ≤ 1048576 := by omega) : reprN [d] = some (.str d.shown) := by
  have hl : PyData.layable0 d = true := by
    unfold PyData.layable0
    rw [h.lay, decide_eq_true (Nat.le_trans h.dep hk), decide_eq_true (Nat.le_trans h.wt (Nat.le_trans hw (by decide)))]
    rfl
  have hz := PyData.shown_le_of_layable0 hl h.ish
  show (if d.showable = true ∧ DL.shp d = true ∧ d.shown.length ≤ 16777216 then _ else _) = _
  rw [if_pos ⟨h.sh, h.shp hk, by omega⟩]
/-- a row of m whole numbers -/
def vec (m : Nat) (f : Nat → Int) : List D := (List.range m).map fun i => PyData.int (f i)
@[simp] theorem vec_len (m : Nat) (f : Nat → Int) : (vec m f).length = m := by simp [vec]
theorem vec_get {m : Nat} {f : Nat → Int} {i : Nat} (h : i < m) : (vec m f)[i]? = some (.int (f i)) := by
  simp [vec, h]
theorem vec_mem {m : Nat} {f : Nat → Int} {d : D} (h : d ∈ vec m f) : ∃ i, i < m ∧ d = .int (f i) := by
  obtain ⟨i, hi, e⟩ := List.mem_map.mp h
  exact ⟨i, List.mem_range.mp hi, e.symm⟩
theorem vec_congr {m : Nat} {f g : Nat → Int} (h : ∀ i, i < m → f i = g i) : vec m f = vec m g := by
  unfold vec
  refine List.map_congr_left fun i hi => ?_
  rw [h i (List.mem_range.mp hi)]
theorem vec_eq {m : Nat} {ds : List D} {f : Nat → Int} (hl : ds.length = m) (h : ∀ i, i < m → ds[i]? = some (.int (f i))) : ds = vec m f := by
  refine List.ext_getElem? fun i => ?_
  by_cases hi : i < m
  · rw [h i hi, vec_get hi]
  · rw [List.getElem?_eq_none (by omega), List.getElem?_eq_none (by simp; omega)]
theorem vec_ints {m : Nat} {f : Nat → Int} : vec m f = ((List.range m).map f).map PyData.int := by simp [vec]
theorem ix_vec {m : Nat} {f : Nat → Int} {i : Nat} (h : i < m) : atI (vec m f) (i : Int) = some (.int (f i)) := by
  unfold atI ixN
  rw [vec_len, if_pos (by omega), if_pos (by omega)]
  simp [vec_get h]
theorem vec_sm {m : Nat} {f : Nat → Int} (h : ∀ i, i < m → (f i).natAbs < 10 ^ 12) : SmA 0 (m * 42) (vec m f) := by
  have := SmA.of (k := 0) (w := 41) (ds := vec m f) fun d hd => by
    obtain ⟨i, hi, e⟩ := vec_mem hd
    rw [e]; exact .int (h i hi)
  rw [vec_len] at this
  exact this
theorem rangeD_vec (n : Nat) : rangeD 0 n = vec n fun i => (i : Int) := by
  unfold rangeD vec
  refine List.map_congr_left fun i _ => ?_
  rw [Int.zero_add]
theorem rg1_vec {n : Nat} (h : n ≤ 16777216) : rg1 (.int (n : Int)) = some (vec n fun i => (i : Int)) := by
  show (if rgOk 0 (n : Int) then some (rgD 0 (n : Int)) else none) = _
  rw [if_pos ⟨by omega, by omega, by omega, by omega, by omega⟩]
  unfold rgD vec
  rw [show ((n : Int) - 0).toNat = n by omega]
  refine congrArg some (List.map_congr_left fun i _ => ?_)
  rw [Int.zero_add]
end DL.G
set_option Elab.async false
set_option linter.all false
set_option maxRecDepth 100000
set_option maxHeartbeats 4000000
/-! _law_mixed: the things, in some order. -/
namespace DL.G
open PySem PySem.Spec L2 DL
open PyProof.Rows hiding St
noncomputable def law_mixed_w1 : M Fl := (cSeq (cDrop (mOwnL 2 (cCons (mOwnL 1 (cCons (cCall phi_law_pick (cCons (mSlot 0) (cCons (mDo (cN lenN (cCons (mSlot 1) (ret [])))) (ret [])))) (ret [])) opPopAt) (ret [])) opAppend)) skp)
noncomputable def g_law_mixed : M Fl := (cSeq (cPar (cConsL (cFrN listN (cCons (mSlot 1) (ret []))) (cConsL (cLst (ret [])) (ret []))) [1, 2]) (cSeq (cWhile (cB (cOp2 neD (mSlot 1) (mDo (cList (cLst (ret [])))))) law_mixed_w1) (cSeq (cRel 2 (cRet (mVar 2))) skp)))
noncomputable def phi_law_mixed : Phi := φOf 3 g_law_mixed
section
variable [Zm]
theorem shp_of {ds : List D} (h : ∀ d ∈ ds, d.plain = true ∧ d.depth ≤ 63) : shp (.list ds) = true ∧ shp (.tuple ds) = true := by
  have h1 : PyData.plainAll ds = true := by
    induction ds with
    | nil => rfl
    | cons d ds ih => rw [PyData.plainAll, (h d List.mem_cons_self).1, ih fun e he => h e (List.mem_cons_of_mem _ he)]; rfl
  have h2 : PyData.depthAll ds ≤ 63 := by
    induction ds with
    | nil => rw [PyData.depthAll]; omega
    | cons d ds ih =>
      rw [PyData.plainAll, Bool.and_eq_true] at h1
      rw [PyData.depthAll]; exact Nat.max_le.mpr ⟨(h d List.mem_cons_self).2, ih (fun e he => h e (List.mem_cons_of_mem _ he)) h1.2⟩
  constructor
  · unfold shp; rw [PyData.plain, PyData.depth, h1, decide_eq_true (by omega)]; rfl
  · unfold shp; rw [PyData.plain, PyData.depth, h1, decide_eq_true (by omega)]; rfl
theorem ev_OwnL {i : Nat} {f : M (List D)} {op : List D → List D → Option (D × List D)} {s s1 : S} {ds0 ds args ds' : List D} {d : D} (h0 : s.1[i]? = some (some (.l ds0))) (h1 : f s = some (args, s1)) (h2 : s1.1[i]? = some (some (.l ds))) (h3 : op ds args = some (d, ds')) :
    mOwnL i f op s = some (d, (s1.1.set i (some (.l ds')), s1.2)) := by
  have e0 : ownL i s = some ((), s) := by unfold ownL; rw [h0]
  refine (bnd_eq e0).trans ((bnd_eq h1).trans ?_)
  show (match s1.1[i]? with | some (some (.l ds)) => (match op ds args with | none => none | some p => some (p.1, (s1.1.set i (some (.l p.2)), s1.2))) | _ => none) = _
  rw [h2]
  simp only [h3]
theorem erase_perm : ∀ (ds : List D) (i : Nat) (h : i < ds.length), (ds[i] :: ds.eraseIdx i).Perm ds
  | d :: ds, 0, _ => .refl _
  | d :: ds, i + 1, h => by
    have := erase_perm ds i (by simpa using h)
    simp only [List.getElem_cons_succ, List.eraseIdx_cons_succ]
    exact (List.Perm.swap _ _ _).trans (this.cons d)
theorem pop_at {ds : List D} {r : Int} (h0 : 0 ≤ r) (h1 : r < ds.length) : ∃ d, opPopAt ds [.int r] = some (d, ds.eraseIdx r.toNat) ∧ (d :: ds.eraseIdx r.toNat).Perm ds := by
  have hr : r.toNat < ds.length := by omega
  refine ⟨ds[r.toNat], ?_, erase_perm ds _ hr⟩
  show (match ixN ds.length r with | some j => (match ds[j]? with | some d => some (d, ds.eraseIdx j) | none => none) | none => none) = _
  unfold ixN
  rw [if_pos h0, if_pos h1]
  simp [hr]
theorem ne_nil {ds : List D} (h : shp (.list ds) = true) : neD (.list ds) (.list []) = some (.bool (!ds.isEmpty)) := by
  have hn : shp (.list []) = true := by decide +kernel
  show (if (shp (.list ds) && shp (.list [])) = true then some (PyData.bool (!PyData.eqv (.list ds) (.list []))) else none) = _
  rw [h, hn, if_pos (by rfl)]
  cases ds with
  | nil => simp [PyData.eqv, PyData.eqvAll]
  | cons d ds => simp [PyData.eqv, PyData.eqvAll]
abbrev mxE (xs ys : List D) : DEnv := [some .s, some (.l xs), some (.l ys)]
theorem mixed_t {xs ys : List D} {st : Src} (h : shp (.list xs) = true) : cB (cOp2 neD (mSlot 1) (mDo (cList (cLst (ret []))))) (mxE xs ys, st) = some (!xs.isEmpty, (mxE xs ys, st)) := by
  simp [ne_nil h]
theorem mixed_b {xs ys : List D} {st : Src} (h : xs ≠ []) (hl : xs.length ≤ 16777216) (hy : ys.length < 16777216) : ∃ d xs' st', law_mixed_w1 (mxE xs ys, st) = some (.nx, (mxE xs' (ys ++ [d]), st')) ∧ (d :: xs').Perm xs := by
  have hp : 0 < xs.length := List.length_pos_iff.mpr h
  have hm : (xs.length : Int).natAbs.log2 < 9000 := by
    have : xs.length.log2 < 25 := (Nat.log2_lt (by omega)).mpr (by omega)
    simp; omega
  obtain ⟨r, st', e, h0, h1⟩ := pick_spec st (xs.length : Int) hm
  obtain ⟨d, e2, hd⟩ := pop_at (ds := xs) h0 (by omega)
  refine ⟨d, xs.eraseIdx r.toNat, st', ?_, hd⟩
  have c1 : cCons (cCall phi_law_pick (cCons (mSlot 0) (cCons (mDo (cN lenN (cCons (mSlot 1) (ret [])))) (ret [])))) (ret []) (mxE xs ys, st) = some ([.int r], (mxE xs ys, st')) := by
    simp [e]
  have c2 := ev_OwnL (i := 1) (s := (mxE xs ys, st)) (ds0 := xs) (ds := xs) rfl c1 rfl e2
  have c3 : cCons (mOwnL 1 (cCons (cCall phi_law_pick (cCons (mSlot 0) (cCons (mDo (cN lenN (cCons (mSlot 1) (ret [])))) (ret [])))) (ret [])) opPopAt) (ret []) (mxE xs ys, st) = some ([d], (mxE (xs.eraseIdx r.toNat) ys, st')) := by
    rw [ev_Cons, c2]
    rfl
  have c4 := ev_OwnL (i := 2) (op := opAppend) (s := (mxE xs ys, st)) (ds0 := ys) (ds := ys) (d := .none) (ds' := ys ++ [d]) rfl c3 rfl (by
    show (if ys.length < 16777216 then some (PyData.none, ys ++ [d]) else none) = _
    rw [if_pos hy])
  unfold law_mixed_w1
  rw [ev_Seq, ev_Drop, c4]
  rfl
theorem mixed_w : ∀ (n : Nat) (xs ys : List D) (st : Src), xs.length = n → n + ys.length ≤ 16777216 → (∀ d ∈ xs, d.plain = true ∧ d.depth ≤ 63) → ∃ zs st', whF (cB (cOp2 neD (mSlot 1) (mDo (cList (cLst (ret [])))))) law_mixed_w1 (n + 1) (mxE xs ys, st) = some (.nx, (mxE [] (ys ++ zs), st')) ∧ zs.Perm xs
  | 0, xs, ys, st, hn, hl, hp => by
    have := List.length_eq_zero_iff.mp hn
    subst this
    refine ⟨[], st, ?_, .refl _⟩
    rw [whF_succ]
    refine (bnd_eq (mixed_t (shp_of hp).1)).trans ?_
    simp [ret]
  | n + 1, xs, ys, st, hn, hl, hp => by
    have hx : xs ≠ [] := fun e => by rw [e] at hn; cases hn
    obtain ⟨d, xs', st1, e1, hd⟩ := mixed_b (ys := ys) (st := st) hx (by omega) (by omega)
    have hn' : xs'.length = n := by have := hd.length_eq; simp at this; omega
    obtain ⟨zs, st', e2, hz⟩ := mixed_w n xs' (ys ++ [d]) st1 hn' (by simp; omega) fun e he => hp e (hd.subset (List.mem_cons_of_mem _ he))
    refine ⟨d :: zs, st', ?_, (hz.cons d).trans hd⟩
    rw [whF_succ]
    refine (bnd_eq (mixed_t (shp_of hp).1)).trans ?_
    have hb : (!xs.isEmpty) = true := by cases xs with | nil => exact absurd rfl hx | cons _ _ => rfl
    rw [hb, if_pos rfl]
    refine (bnd_eq e1).trans ?_
    rw [show ys ++ d :: zs = (ys ++ [d]) ++ zs by simp]
    exact e2
theorem mixed_spec {xs : List D} (st : Src) (hl : xs.length ≤ 16777216) (hp : ∀ d ∈ xs, d.plain = true ∧ d.depth ≤ 63) : ∃ ys st', phi_law_mixed [.s, .d (.list xs)] st = some (.list ys, st') ∧ ys.Perm xs := by
  obtain ⟨zs, st', e, hz⟩ := mixed_w _ xs [] st rfl (by simpa using hl) hp
  have e := cWhile_eq e
  refine ⟨zs, st', ?_, hz⟩
  refine phi_of (s' := ([some .s, some (.l []), some (.v (.list zs))], st')) ?_
  show g_law_mixed ([some .s, some (.v (.list xs)), none], st) = _
  have c : cPar (cConsL (cFrN listN (cCons (mSlot 1) (ret []))) (cConsL (cLst (ret [])) (ret []))) [1, 2] ([some .s, some (.v (.list xs)), none], st) = some (.nx, (mxE xs [], st)) := rfl
  unfold g_law_mixed
  rw [ev_Seq, c]
  simp only [Option.bind_some, ev_seq_nx]
  rw [ev_Seq, e]
  simp only [Option.bind_some, ev_seq_nx]
  rfl
end
end DL.G
set_option Elab.async false
set_option linter.all false
set_option maxRecDepth 100000
set_option maxHeartbeats 4000000
namespace DL
instance : Zm := ⟨true⟩
end DL
namespace DL.G
open PySem PySem.Spec L2 DL
open PyProof.Rows hiding St
noncomputable def g_law_of : M Fl := (cSeq (cRet (cOp2 ixD (mSlot 1) (mDo (cCall phi_law_pick (cCons (mSlot 0) (cCons (mDo (cN lenN (cCons (mSlot 1) (ret [])))) (ret []))))))) skp)
noncomputable def phi_law_of : Phi := φOf 2 g_law_of
noncomputable def row_led_b1 : M Fl := (cSeq (cSetI 2 (cOp2 mulD (mSlot 4) (mSlot 5)) (mVar 3)) skp)
noncomputable def g_row_led : M Fl := (cSeq (cSetL 2 (cFr2 repL (mDo (cList (cLst (cCons (mC (.int 0)) (ret []))))) (mDo (cN lenN (cCons (mSlot 1) (ret [])))))) (cSeq (cFor (cIt zip3D (cCons (cOp2 ixD (mSlot 0) (mDo (mC (.int 0)))) (cCons (cOp2 ixD (mSlot 0) (mDo (mC (.int 1)))) (cCons (mVar 1) (ret []))))) (gTupD 3 (gConss (gSet 3) (gConss (gSet 4) (gConss (gSet 5) gNils)))) row_led_b1) (cSeq (cRet (cN tupN (cCons (mSlot 2) (ret [])))) skp)))
noncomputable def phi_row_led : Phi := φOf 6 g_row_led
noncomputable def law_signed_e1 : M D := (cOp2 subD (mDo (mC (.int 1))) (mDo (cOp2 mulD (mDo (mC (.int 2))) (mDo (cCall phi_law_pick (cCons (mSlot 0) (cCons (mDo (mC (.int 2))) (ret []))))))))
noncomputable def g_law_signed : M Fl := (cSeq (cSet 2 (cN tupN (cCons (mDo (cList (cLc (bnd (cCons (mVar 1) (ret [])) rng1M) (gSet 3) (ret true) law_signed_e1 [3]))) (ret [])))) (cSeq (cRet (cTup (cCons (cN tupN (cCons (mDo (cCall phi_law_mixed (cCons (mSlot 0) (cCons (mDo (cList (cLrg1 (mVar 1)))) (ret []))))) (ret []))) (cCons (mVar 2) (ret []))))) skp))
noncomputable def phi_law_signed : Phi := φOf 4 g_law_signed
noncomputable def maps_followed_e1 : M D := (cOp2 mulD (mSlot 4) (mDo (cOp2 ixD (mDo (cOp2 ixD (mSlot 1) (mDo (mC (.int 1))))) (mSlot 3))))
noncomputable def maps_followed_e2 : M D := (cOp2 ixD (mDo (cOp2 ixD (mSlot 1) (mDo (mC (.int 0))))) (mSlot 3))
noncomputable def g_maps_followed : M Fl := (cSeq (cSet 2 (cList (cLc (cIt (zipD true) (cCons (cOp2 ixD (mSlot 0) (mDo (mC (.int 0)))) (cCons (cOp2 ixD (mSlot 0) (mDo (mC (.int 1)))) (ret [])))) (gTupD 2 (gConss (gSet 3) (gConss (gSet 4) gNils))) (ret true) maps_followed_e1 [3, 4]))) (cSeq (cRet (cTup (cCons (cN tupN (cCons (mDo (cList (cLc (cSeqI (cOp2 ixD (mSlot 0) (mDo (mC (.int 0))))) (gSet 3) (ret true) maps_followed_e2 [3]))) (ret []))) (cCons (cN tupN (cCons (mSlot 2) (ret []))) (ret []))))) skp))
noncomputable def phi_maps_followed : Phi := φOf 5 g_maps_followed
noncomputable def map_back_e1 : M D := (cMet idxN (mDo (cOp2 ixD (mSlot 0) (mDo (mC (.int 0))))) (cCons (mSlot 2) (ret [])))
noncomputable def g_map_back : M Fl := (cSeq (cSet 1 (cN lenN (cCons (mDo (cOp2 ixD (mSlot 0) (mDo (mC (.int 0))))) (ret [])))) (cSeq (cRet (cTup (cCons (cN tupN (cCons (mDo (cList (cLc (bnd (cCons (mVar 1) (ret [])) rng1M) (gSet 2) (ret true) map_back_e1 [2]))) (ret []))) (cCons (cCall phi_row_led (cCons (mSlot 0) (cCons (mDo (cOp2 mulD (mDo (cTup (cCons (mC (.int 1)) (ret [])))) (mSlot 1))) (ret [])))) (ret []))))) skp))
noncomputable def phi_map_back : Phi := φOf 3 g_map_back
noncomputable def law_led_b1 : M Fl := (cSeq (cSetI 2 (cOp2 mulD (mDo (cOp2 ixD (mDo (cOp2 ixD (mSlot 0) (mDo (mC (.int 1))))) (mSlot 3))) (mSlot 4)) (cOp2 ixD (mDo (cOp2 ixD (mSlot 0) (mDo (mC (.int 0))))) (mSlot 3))) skp)
noncomputable def g_law_led : M Fl := (cSeq (cSetL 2 (cFr2 repL (mDo (cList (cLst (cCons (mC (.int 0)) (ret []))))) (mDo (cN lenN (cCons (mSlot 1) (ret [])))))) (cSeq (cFor (cIt enumD (cCons (mVar 1) (ret []))) (gTupD 2 (gConss (gSet 3) (gConss (gSet 4) gNils))) law_led_b1) (cSeq (cRet (cN tupN (cCons (mSlot 2) (ret [])))) skp)))
noncomputable def phi_law_led : Phi := φOf 5 g_law_led
noncomputable def g_is_whole : M Fl := (cSeq (cRet (cAndV (cIsi "int" (mSlot 0)) (cNotV (cIsi "bool" (mSlot 0))))) skp)
noncomputable def phi_is_whole : Phi := φOf 1 g_is_whole
noncomputable def g_is_whole_row : M Fl := (cSeq (cRet (cAndV (cIsi "tuple" (mSlot 1)) (cAndV (cOp2 eqD (mDo (cN lenN (cCons (mSlot 1) (ret [])))) (mSlot 0)) (cN allN (cCons (mDo (cList (cLc (cSeqI (mVar 1)) (gSet 2) (ret true) (cCall phi_is_whole (cCons (mSlot 2) (ret []))) [2]))) (ret [])))))) skp)
noncomputable def phi_is_whole_row : Phi := φOf 3 g_is_whole_row
noncomputable def is_signed_map_e1 : M D := (cCall phi_is_whole_row (cCons (mSlot 0) (cCons (mSlot 2) (ret []))))
noncomputable def is_signed_map_e2 : M D := (cOp2 (inD false) (mSlot 3) (mDo (cTup (cCons (mC (.int 1)) (cCons (cNeg (mC (.int 1))) (ret []))))))
noncomputable def g_is_signed_map : M Fl := (cSeq (cIf (cOr (cNot (cB (cIsi "tuple" (mSlot 1)))) (cOr (cB (cOp2 neD (mDo (cN lenN (cCons (mSlot 1) (ret [])))) (mDo (mC (.int 2))))) (cNot (cB (cN allN (cCons (mDo (cList (cLc (cSeqI (mVar 1)) (gSet 2) (ret true) is_signed_map_e1 [2]))) (ret []))))))) (cSeq (cRet (mC (.bool false))) skp) skp) (cSeq (cRet (cAndV (cOp2 eqD (mDo (cList (cFrN sortedN (cCons (mDo (cOp2 ixD (mSlot 1) (mDo (mC (.int 0))))) (ret []))))) (mDo (cList (cLrg1 (mVar 0))))) (cN allN (cCons (mDo (cList (cLc (cSeqI (cOp2 ixD (mSlot 1) (mDo (mC (.int 1))))) (gSet 3) (ret true) is_signed_map_e2 [3]))) (ret []))))) skp))
noncomputable def phi_is_signed_map : Phi := φOf 4 g_is_signed_map
noncomputable def g_law_whole : M Fl := (cSeq (cRet (cAndV (cIsi "int" (mSlot 0)) (cNotV (cIsi "bool" (mSlot 0))))) skp)
noncomputable def phi_law_whole : Phi := φOf 1 g_law_whole
noncomputable def law_is_signed_b1 : M Fl := (cSeq (cIf (cOr (cNot (cB (cIsi "tuple" (mSlot 2)))) (cOr (cB (cOp2 neD (mDo (cN lenN (cCons (mSlot 2) (ret [])))) (mSlot 0))) (cB (cOp2 neD (mDo (cList (cLc (cSeqI (mVar 2)) (gSet 3) (cNot (cB (cCall phi_law_whole (cCons (mSlot 3) (ret []))))) (mVar 3) [3]))) (mDo (cList (cLst (ret [])))))))) (cSeq (cRet (mC (.bool false))) skp) skp) skp)
noncomputable def g_law_is_signed : M Fl := (cSeq (cIf (cOr (cNot (cB (cIsi "tuple" (mSlot 1)))) (cB (cOp2 neD (mDo (cN lenN (cCons (mSlot 1) (ret [])))) (mDo (mC (.int 2)))))) (cSeq (cRet (mC (.bool false))) skp) skp) (cSeq (cFor (cSeqI (mVar 1)) (gSet 2) law_is_signed_b1) (cSeq (cRet (cAndV (cOp2 eqD (mDo (cList (cFrN sortedN (cCons (mDo (cOp2 ixD (mSlot 1) (mDo (mC (.int 0))))) (ret []))))) (mDo (cList (cLrg1 (mVar 0))))) (cOp2 eqD (mDo (cList (cLc (cSeqI (cOp2 ixD (mSlot 1) (mDo (mC (.int 1))))) (gSet 3) (cB (cOp2 (inD true) (mSlot 3) (mDo (cTup (cCons (mC (.int 1)) (cCons (cNeg (mC (.int 1))) (ret []))))))) (mVar 3) [3]))) (mDo (cList (cLst (ret []))))))) skp)))
noncomputable def phi_law_is_signed : Phi := φOf 4 g_law_is_signed
noncomputable def law_e1 : M D := (cOp2 subD (mDo (cCall phi_law_pick (cCons (mSlot 1) (cCons (mDo (mC (.int 21))) (ret []))))) (mDo (mC (.int 10))))
noncomputable def law_e2 : M D := (cN tupN (cCons (mDo (cList (cLc (bnd (cCons (mVar 3) (ret [])) rng1M) (gSet 19) (ret true) law_e1 [19]))) (ret [])))
noncomputable def law_e3 : M D := (cMet idxN (mDo (cOp2 ixD (mSlot 4) (mDo (mC (.int 0))))) (cCons (mSlot 20) (ret [])))
noncomputable def law_b4 : M Fl := (cSeq (cSet 17 (cN reprN (cCons (mSlot 16) (ret [])))) (cSeq (cIf (cOr (cB (cOp2 neD (mDo (cN reprN (cCons (mDo (cCall phi_is_signed_map (cCons (mSlot 3) (cCons (mSlot 16) (ret []))))) (ret [])))) (mDo (cN reprN (cCons (mDo (cCall phi_law_is_signed (cCons (mSlot 3) (cCons (mSlot 16) (ret []))))) (ret [])))))) (cB (cOp2 neD (mDo (cN reprN (cCons (mSlot 16) (ret [])))) (mSlot 17)))) (cSeq (cRet (mC (.bool false))) skp) skp) skp))
noncomputable def law_b5 : M Fl := (cSeq (cSet 3 (cOp2 addD (mDo (mC (.int 1))) (mDo (cCall phi_law_pick (cCons (mSlot 1) (cCons (mDo (mC (.int 9))) (ret []))))))) (cSeq (cAsgT (cConsV (cCall phi_law_signed (cCons (mSlot 1) (cCons (mSlot 3) (ret [])))) (cConsV (cCall phi_law_signed (cCons (mSlot 1) (cCons (mSlot 3) (ret [])))) (ret []))) (zV (gSet 4) (zV (gSet 5) zNil))) (cSeq (cAsg (cList (cLc (bnd (cCons (mC (.int 2)) (ret [])) rng1M) (gSet 18) (ret true) law_e2 [18])) (gTupD 2 (gConss (gSet 6) (gConss (gSet 7) gNils)))) (cSeq (cPar (cConsV (cN reprN (cCons (mDo (cList (cLst (cCons (mVar 4) (cCons (mVar 5) (cCons (mVar 6) (ret []))))))) (ret []))) (cConsV (cCall phi_row_led (cCons (mSlot 4) (cCons (mSlot 6) (ret [])))) (ret []))) [8, 9]) (cSeq (cSet 10 (cN tupN (cCons (mDo (cList (cLc (bnd (cCons (mVar 3) (ret [])) rng1M) (gSet 20) (ret true) law_e3 [20]))) (ret [])))) (cSeq (cIf (cOr (cB (cOp2 neD (mDo (cN reprN (cCons (mSlot 9) (ret [])))) (mDo (cN reprN (cCons (mDo (cCall phi_law_led (cCons (mSlot 4) (cCons (mSlot 6) (ret []))))) (ret [])))))) (cB (cOp2 neD (mDo (cN reprN (cCons (mDo (cOp2 ixD (mDo (cCall phi_map_back (cCons (mSlot 4) (ret [])))) (mDo (mC (.int 0))))) (ret [])))) (mDo (cN reprN (cCons (mSlot 10) (ret []))))))) (cSeq (cRet (mC (.bool false))) skp) skp) (cSeq (cIf (cB (cOp2 neD (mDo (cN sumN (cCons (mDo (cList (cLc (cIt (zipD false) (cCons (mVar 9) (cCons (cCall phi_row_led (cCons (mSlot 4) (cCons (mSlot 7) (ret [])))) (ret [])))) (gTupD 2 (gConss (gSet 21) (gConss (gSet 22) gNils))) (ret true) (cOp2 mulD (mSlot 21) (mSlot 22)) [21, 22]))) (ret [])))) (mDo (cN sumN (cCons (mDo (cList (cLc (cIt (zipD false) (cCons (mVar 6) (cCons (mVar 7) (ret [])))) (gTupD 2 (gConss (gSet 21) (gConss (gSet 22) gNils))) (ret true) (cOp2 mulD (mSlot 21) (mSlot 22)) [21, 22]))) (ret [])))))) (cSeq (cRet (mC (.bool false))) skp) skp) (cSeq (cIf (cOr (cB (cOp2 neD (mDo (cCall phi_row_led (cCons (mDo (cCall phi_map_back (cCons (mSlot 4) (ret [])))) (cCons (mSlot 9) (ret []))))) (mSlot 6))) (cB (cOp2 neD (mDo (cCall phi_map_back (cCons (mDo (cCall phi_map_back (cCons (mSlot 4) (ret [])))) (ret [])))) (mSlot 4)))) (cSeq (cRet (mC (.bool false))) skp) skp) (cSeq (cPar (cConsV (cCall phi_maps_followed (cCons (mSlot 4) (cCons (mSlot 5) (ret [])))) (cConsV (cTup (cCons (cTrg1 (mVar 3)) (cCons (cOp2 mulD (mDo (cTup (cCons (mC (.int 1)) (ret [])))) (mSlot 3)) (ret [])))) (ret []))) [11, 12]) (cSeq (cIf (cOr (cB (cOp2 neD (mDo (cCall phi_row_led (cCons (mSlot 11) (cCons (mSlot 6) (ret []))))) (mDo (cCall phi_row_led (cCons (mSlot 5) (cCons (mSlot 9) (ret []))))))) (cB (cOp2 neD (mDo (cCall phi_maps_followed (cCons (mSlot 4) (cCons (mDo (cCall phi_map_back (cCons (mSlot 4) (ret [])))) (ret []))))) (mSlot 12)))) (cSeq (cRet (mC (.bool false))) skp) skp) (cSeq (cIf (cB (cOp2 neD (mDo (cCall phi_maps_followed (cCons (mDo (cCall phi_maps_followed (cCons (mSlot 4) (cCons (mSlot 5) (ret []))))) (cCons (mSlot 4) (ret []))))) (mDo (cCall phi_maps_followed (cCons (mSlot 4) (cCons (mDo (cCall phi_maps_followed (cCons (mSlot 5) (cCons (mSlot 4) (ret []))))) (ret []))))))) (cSeq (cRet (mC (.bool false))) skp) skp) (cSeq (cSet 13 (cCall phi_law_pick (cCons (mSlot 1) (cCons (mSlot 3) (ret []))))) (cSeq (cSet 14 (cCall phi_law_of (cCons (mSlot 1) (cCons (mDo (cList (cLst (cCons (mC .none) (cCons (mC (.bool true)) (cCons (mC (.int 2)) (cCons (mC (.int 0)) (cCons (cNeg (mC (.int 1))) (cCons (mC (.str ("0" : Str))) (cCons (cTup (ret [])) (cCons (cList (cLst (cCons (mC (.int 0)) (ret [])))) (cCons (mVar 3) (ret []))))))))))))) (ret []))))) (cSeq (cSetL 15 (cLst (cCons (mVar 4) (cCons (cOp2 ixD (mSlot 4) (mDo (mC (.int 0)))) (cCons (cTup (cCons (cOp2 ixD (mSlot 4) (mDo (mC (.int 0)))) (cCons (cSl (mDo (cOp2 ixD (mSlot 4) (mDo (mC (.int 1))))) (cPart (mC (.int 1))) (ret none)) (ret [])))) (cCons (cTup (cCons (cOp2 ixD (mSlot 4) (mDo (mC (.int 1)))) (cCons (cOp2 ixD (mSlot 4) (mDo (mC (.int 0)))) (ret [])))) (cCons (cTup (cCons (cList (cFrN listN (cCons (mDo (cOp2 ixD (mSlot 4) (mDo (mC (.int 0))))) (ret [])))) (cCons (cOp2 ixD (mSlot 4) (mDo (mC (.int 1)))) (ret [])))) (cCons (cList (cFrN listN (cCons (mSlot 4) (ret [])))) (cCons (mC .none) (cCons (cTup (ret [])) (ret []))))))))))) (cSeq (cDrop (mOwnL 15 (cCons (cTup (cCons (cOp2 addD (mDo (cOp2 addD (mDo (cSl (mDo (cOp2 ixD (mSlot 4) (mDo (mC (.int 0))))) (ret none) (cPart (mVar 13)))) (mDo (cTup (cCons (mVar 14) (ret [])))))) (mDo (cSl (mDo (cOp2 ixD (mSlot 4) (mDo (mC (.int 0))))) (cPart (cOp2 addD (mSlot 13) (mDo (mC (.int 1))))) (ret none)))) (cCons (cOp2 ixD (mSlot 4) (mDo (mC (.int 1)))) (ret [])))) (ret [])) opAppend)) (cSeq (cDrop (mOwnL 15 (cCons (cTup (cCons (cOp2 ixD (mSlot 4) (mDo (mC (.int 0)))) (cCons (cOp2 addD (mDo (cOp2 addD (mDo (cSl (mDo (cOp2 ixD (mSlot 4) (mDo (mC (.int 1))))) (ret none) (cPart (mVar 13)))) (mDo (cTup (cCons (mVar 14) (ret [])))))) (mDo (cSl (mDo (cOp2 ixD (mSlot 4) (mDo (mC (.int 1))))) (cPart (cOp2 addD (mSlot 13) (mDo (mC (.int 1))))) (ret none)))) (ret [])))) (ret [])) opAppend)) (cSeq (cSetL 15 (cFr2 addL (mSlot 15) (mDo (cList (cLst (cCons (cOp2 addD (mSlot 4) (mDo (cTup (cCons (mC (.int 0)) (ret []))))) (cCons (cTup (cCons (cOp2 ixD (mSlot 4) (mDo (mC (.int 0)))) (cCons (mVar 14) (ret [])))) (cCons (cTup (cCons (mVar 14) (cCons (cOp2 ixD (mSlot 4) (mDo (mC (.int 1)))) (ret [])))) (cCons (cTup (cCons (cOp2 mulD (mDo (cTup (cCons (mC (.int 0)) (ret [])))) (mSlot 3)) (cCons (cOp2 ixD (mSlot 4) (mDo (mC (.int 1)))) (ret [])))) (cCons (mVar 14) (cCons (mVar 11) (ret [])))))))))))) (cSeq (cRel 15 (cFor (cSeqI (mVar 15)) (gSet 16) law_b4)) (cSeq (cIf (cB (cOp2 neD (mDo (cN reprN (cCons (mDo (cList (cLst (cCons (mVar 4) (cCons (mVar 5) (cCons (mVar 6) (ret []))))))) (ret [])))) (mSlot 8))) (cSeq (cRet (mC (.bool false))) skp) skp) skp)))))))))))))))))))
noncomputable def g_law : M Fl := (cSeq (cFor (bnd (cCons (mC (.int 5)) (ret [])) rng1M) (gSet 2) law_b5) (cSeq (cRet (cOp2 eqD (mDo (cCall phi_row_led (cCons (mDo (cTup (cCons (cTup (cCons (mC (.int 1)) (cCons (mC (.int 0)) (cCons (mC (.int 2)) (ret []))))) (cCons (cTup (cCons (mC (.int 1)) (cCons (cNeg (mC (.int 1))) (cCons (mC (.int 1)) (ret []))))) (ret []))))) (cCons (mDo (cTup (cCons (mC (.int 5)) (cCons (mC (.int 6)) (cCons (mC (.int 7)) (ret [])))))) (ret []))))) (mDo (cTup (cCons (cNeg (mC (.int 6))) (cCons (mC (.int 5)) (cCons (mC (.int 7)) (ret [])))))))) skp))
end DL.G
set_option Elab.async false
set_option linter.all false
set_option maxRecDepth 100000
set_option maxHeartbeats 4000000
namespace DL.G
open PySem PySem.Spec L2 DL
open PyProof.Rows hiding St
def top (i : Nat) : Stmt := PySem.Challenge.pw_flowlattices_k46_signed_maps.main.body.getD i (.Pass ⟨0, 0, 0, 0⟩)
abbrev s_law_source : Stmt := top 9
abbrev s_law_pick : Stmt := top 10
abbrev s_law_of : Stmt := top 11
abbrev s_row_led : Stmt := top 5
abbrev s_law_mixed : Stmt := top 12
abbrev s_law_signed : Stmt := top 22
abbrev s_maps_followed : Stmt := top 7
abbrev s_map_back : Stmt := top 6
abbrev s_law_led : Stmt := top 20
abbrev s_is_whole : Stmt := top 1
abbrev s_is_whole_row : Stmt := top 2
abbrev s_is_signed_map : Stmt := top 4
abbrev s_law_whole : Stmt := top 23
abbrev s_law_is_signed : Stmt := top 24
abbrev s_law : Stmt := top 25
structure Txt (mg : Str → Option Value) : Prop where
  n_abs : mg "abs" = none
  n_all : mg "all" = none
  n_bool : mg "bool" = none
  n_enumerate : mg "enumerate" = none
  n_int : mg "int" = none
  n_isinstance : mg "isinstance" = none
  n_len : mg "len" = none
  n_list : mg "list" = none
  n_max : mg "max" = none
  n_range : mg "range" = none
  n_repr : mg "repr" = none
  n_sorted : mg "sorted" = none
  n_sum : mg "sum" = none
  n_tuple : mg "tuple" = none
  n_zip : mg "zip" = none
section
variable {P : Program} {w : World} {K : PySem.W.Frag} {mg : Str → Option Value} {base : Heap}
abbrev Fd (K : PySem.W.Frag) (x : Str) (st : Stmt) (f : Addr) (fd : FuncData) : Prop := FunD K x x (defArgs st) (defBody st) (defScope st) [] [] f fd
theorem sc_law_source : FnScope ["script", "mixed", "cell"] ["script"] (defScope s_law_source) := ⟨rfl, rfl, rfl, by decide +kernel, rfl, by decide +kernel, by decide +kernel⟩
theorem ok_law_source {f : Addr} {fd : FuncData} (T : Txt mg) (F : Fd K "_law_source" s_law_source f fd) : FnG P w K mg base 1 f fd ["script"] (spSource K) := by
  refine source_fn (k := 0) (fun_of F) sc_law_source fun cdv A outer s H hgu hr => ?_
  exact pss_cons (ps_set (i := 1) sc_law_source.nd rfl (Or.inl rfl) pe_int) (pss_cons (ps_for PassesOwn.never rfl (pi_list (pv 0)) (pg_name (i := 2) sc_law_source.nd rfl (Or.inl rfl)) (pss_one (ps_set (i := 1) sc_law_source.nd rfl (Or.inl rfl) (pe_op op_mod (pe_callTy call_int1 rfl T.n_int bt_int (pa_cons (pe_op op_add (pe_op op_add (pe_op op_mulZ (pv 1) pe_int) (pe_op op_mulZ (pv 2) pe_int)) pe_int) pa_nil)) pe_int))))
    (pss_one (ps_ret (pe_disp (pps_cons pe_str (pe_revL (pe_lc (own := [("cell", 2)]) rfl sc_law_source.nd (pi_list (pv 0)) (blkOk_by (N := ["script", "mixed", "cell"]) (sc := defScope s_law_source) (by decide +kernel)) (fun _ _ _ _ _ => pg_name (i := 2) sc_law_source.nd rfl (by first | exact Or.inl rfl | exact Or.inr rfl)) (fun _ _ _ _ _ => pts_nil) (fun _ _ _ _ _ => pe_callB call_abs rfl T.n_abs bt_abs (pa_cons (pv 2) pa_nil))))
      (pps_cons pe_str pe_int (pps_cons pe_str (pv 1) (pps_cons pe_str pe_int pps_nil)))) rfl rfl (by simp) (by decide)))))
theorem sc_law_pick : FnScope ["source", "many", "left", "mixed"] ["source", "many"] (defScope s_law_pick) := ⟨rfl, rfl, rfl, by decide +kernel, rfl, by decide +kernel, by decide +kernel⟩
theorem ok_law_pick {f : Addr} {fd : FuncData} (T : Txt mg) (F : Fd K "_law_pick" s_law_pick f fd) : FnG P w K mg base 1 f fd ["source", "many"] (spD K 2 phi_law_pick) :=
  fn_d (k := 0) (g := g_law_pick) (N := ["source", "many", "left", "mixed"]) (ps := ["source", "many"]) (fun_of F) sc_law_pick fun cdv A outer s H hgu hr => (dss_cons (ds_while (g := law_pick_w1) PassesOwn.never (DW.dt (dw_and (dt_cmp op2_gt (do_slot 1) (de_do (de_const pe_int fun _ => .int _))) (dw_and (dt_cmp op2_lt (de_do (de_srcGet 0 .left (rm1 hr))) (de_do (de_const pe_int fun _ => .int _))) (dw_and1 (dt_cmp op2_gt (de_do (de_srcLen 0 (rm1 hr) (by rfl) T.n_len)) (de_do (de_const pe_int fun _ => .int _))))))) (dss_cons (ds_srcSet 0 .left (rm1 hr) (de_srcPop 0 (rm1 hr))) dss_nil)) (dss_cons (ds_set 2 sc_law_pick.nd (de_srcGet 0 .left (rm1 hr))) (dss_cons (ds_if (DW.dt (dw_or (dt_cmp op2_lt (do_slot 1) (de_do (de_const pe_int fun _ => .int _))) (dw_or1 (dt_cmp op2_gt (do_slot 2) (de_do (de_const pe_int fun _ => .int _)))))) (dss_cons (ds_srcSet 0 .left (rm1 hr) (de_bin op2_fdiv (do_slot 2) (de_do (de_callB (opN_max2 (by rfl)) (by rfl) T.n_max bt_max (dos_cons (de_do (de_const pe_int fun _ => .int _)) (dos_cons (do_slot 1) dos_nil)))))) (dss_cons (ds_ret (de_bin op2_mod (de_do (de_callT opN_int (by rfl) T.n_int bt_int (dos_cons (do_slot 2) dos_nil))) (de_do (de_callB (opN_max2 (by rfl)) (by rfl) T.n_max bt_max (dos_cons (de_do (de_const pe_int fun _ => .int _)) (dos_cons (do_slot 1) dos_nil)))))) dss_nil)) dss_nil) (dss_cons (ds_srcSet 0 .turn (rm1 hr) (de_bin op2_add (de_do (de_srcGet 0 .turn (rm1 hr))) (de_do (de_const pe_int fun _ => .int _)))) (dss_cons (ds_set 3 sc_law_pick.nd (de_bin op2_mod (de_do (de_callT opN_int (by rfl) T.n_int bt_int (dos_cons (de_do (de_bin op2_add (de_do (de_srcGet 0 .mixed (rm1 hr))) (de_do (de_bin op2_mul (de_do (de_srcGet 0 .turn (rm1 hr))) (de_do (de_const pe_int fun _ => .int _)))))) dos_nil))) (de_do (de_const pe_int fun _ => .int _)))) (dss_cons (ds_set 3 sc_law_pick.nd (de_bin op2_mod (de_do (de_callT opN_int (by rfl) T.n_int bt_int (dos_cons (de_do (de_bin op2_add (de_do (de_bin op2_mul (do_slot 3) (do_slot 3))) (de_do (de_bin op2_mul (de_do (de_srcGet 0 .turn (rm1 hr))) (de_do (de_const pe_int fun _ => .int _)))))) dos_nil))) (de_do (de_const pe_int fun _ => .int _)))) (dss_cons (ds_srcSet 0 .mixed (rm1 hr) (de_var 3)) (dss_cons (ds_ret (de_bin op2_mod (de_do (de_callT opN_int (by rfl) T.n_int bt_int (dos_cons (de_do (de_bin op2_fdiv (do_slot 3) (de_do (de_const pe_int fun _ => .int _)))) dos_nil))) (do_slot 1))) dss_nil))))))))
theorem sc_law_of : FnScope ["source", "some"] ["source", "some"] (defScope s_law_of) := ⟨rfl, rfl, rfl, by decide +kernel, rfl, by decide +kernel, by decide +kernel⟩
theorem ok_law_of {f : Addr} {fd : FuncData} (T : Txt mg) (F : Fd K "_law_of" s_law_of f fd) {f_law_pick : Addr} {d_law_pick : FuncData} (G_law_pick : FnG P w K mg base 1 f_law_pick d_law_pick ["source", "many"] (spD K 2 phi_law_pick) ∧ mg "_law_pick" = some (.ref f_law_pick) ∧ PySem.W.keepIn K (.ref f_law_pick) = true ∧ Binds K d_law_pick ["source", "many"] []) : FnG P w K mg base 2 f fd ["source", "some"] (spD K 2 phi_law_of) :=
  fn_d (k := 1) (g := g_law_of) (N := ["source", "some"]) (ps := ["source", "some"]) (fun_of F) sc_law_of fun cdv A outer s H hgu hr => (dss_cons (ds_ret (de_ix (rm1 hr) (do_slot 1) (de_do (de_call G_law_pick.1 hgu (hr.mono (by decide)) G_law_pick.2.1 G_law_pick.2.2.1 G_law_pick.2.2.2 (dos_cons (do_slot 0) (dos_cons (de_do (de_callB opN_len (by rfl) T.n_len bt_len (dos_cons (do_slot 1) dos_nil))) dos_nil)) (by rfl) (by rfl) (by decide) (by rfl) (by rfl) (len_cons (len_cons len_nil)))))) dss_nil)
theorem sc_row_led : FnScope ["signed", "row", "found", "road", "sign", "number"] ["signed", "row"] (defScope s_row_led) := ⟨rfl, rfl, rfl, by decide +kernel, rfl, by decide +kernel, by decide +kernel⟩
theorem ok_row_led {f : Addr} {fd : FuncData} (T : Txt mg) (F : Fd K "row_led" s_row_led f fd) : FnG P w K mg base 1 f fd ["signed", "row"] (spD K 2 phi_row_led) :=
  fn_d (k := 0) (g := g_row_led) (N := ["signed", "row", "found", "road", "sign", "number"]) (ps := ["signed", "row"]) (fun_of F) sc_row_led fun cdv A outer s H hgu hr => (dss_cons (ds_setL 2 sc_row_led.nd (df_bin fr2_repL (de_do (df_de (df_lst (da_cons (de_const pe_int fun _ => .int _) da_nil)))) (de_do (de_callB opN_len (by rfl) T.n_len bt_len (dos_cons (do_slot 1) dos_nil))))) (dss_cons (ds_for (b := row_led_b1) PassesOwn.never (by rfl) (di_zips3 (by rfl) T.n_zip (da_cons (de_ix (rm1 hr) (do_slot 0) (de_do (de_const pe_int fun _ => .int _))) (da_cons (de_ix (rm1 hr) (do_slot 0) (de_do (de_const pe_int fun _ => .int _))) (da_cons (de_var 1) da_nil)))) (dg_tup (by rfl) (dgs_cons (dg_name 3 sc_row_led.nd) (dgs_cons (dg_name 4 sc_row_led.nd) (dgs_cons (dg_name 5 sc_row_led.nd) dgs_nil)))) (dss_cons (ds_setI 2 (rm1 hr) (de_bin op2_mul (do_slot 4) (do_slot 5)) (de_var 3)) dss_nil)) (dss_cons (ds_ret (de_callT opN_tup (by rfl) T.n_tuple bt_tuple (dos_cons (do_slot 2) dos_nil))) dss_nil)))
theorem sc_law_mixed : FnScope ["source", "some", "found"] ["source", "some"] (defScope s_law_mixed) := ⟨rfl, rfl, rfl, by decide +kernel, rfl, by decide +kernel, by decide +kernel⟩
theorem ok_law_mixed {f : Addr} {fd : FuncData} (T : Txt mg) (F : Fd K "_law_mixed" s_law_mixed f fd) {f_law_pick : Addr} {d_law_pick : FuncData} (G_law_pick : FnG P w K mg base 1 f_law_pick d_law_pick ["source", "many"] (spD K 2 phi_law_pick) ∧ mg "_law_pick" = some (.ref f_law_pick) ∧ PySem.W.keepIn K (.ref f_law_pick) = true ∧ Binds K d_law_pick ["source", "many"] []) : FnG P w K mg base 2 f fd ["source", "some"] (spD K 2 phi_law_mixed) :=
  fn_d (k := 1) (g := g_law_mixed) (N := ["source", "some", "found"]) (ps := ["source", "some"]) (fun_of F) sc_law_mixed fun cdv A outer s H hgu hr => (dss_cons (ds_par2 1 2 (by rfl) sc_law_mixed.nd (dxs_l (df_callT frN_list (by rfl) T.n_list bt_list (dos_cons (do_slot 1) dos_nil)) (dxs_l (df_lst da_nil) dxs_nil))) (dss_cons (ds_while (g := law_mixed_w1) PassesOwn.never (dt_cmp (op2_ne (rm64 hr)) (do_slot 1) (de_do (df_de (df_lst da_nil)))) (dss_cons (ds_expr (de_ownL (i := 2) PySem.F.slot_list_append PySem.F.type_list_append mt_append h_append (da_cons (de_ownL (i := 1) PySem.F.slot_list_pop PySem.F.type_list_pop mt_popAt h_popAt (da_cons (de_call G_law_pick.1 hgu (hr.mono (by decide)) G_law_pick.2.1 G_law_pick.2.2.1 G_law_pick.2.2.2 (dos_cons (do_slot 0) (dos_cons (de_do (de_callB opN_len (by rfl) T.n_len bt_len (dos_cons (do_slot 1) dos_nil))) dos_nil)) (by rfl) (by rfl) (by decide) (by rfl) (by rfl) (len_cons (len_cons len_nil))) da_nil)) da_nil))) dss_nil)) (dss_cons (ds_rel 2 (ds_ret (de_var 2))) dss_nil)))
theorem sc_law_signed : FnScope ["source", "many", "signs", "road"] ["source", "many"] (defScope s_law_signed) := ⟨rfl, rfl, rfl, by decide +kernel, rfl, by decide +kernel, by decide +kernel⟩
theorem ok_law_signed {f : Addr} {fd : FuncData} (T : Txt mg) (F : Fd K "_law_signed" s_law_signed f fd) {f_law_mixed : Addr} {d_law_mixed : FuncData} (G_law_mixed : FnG P w K mg base 2 f_law_mixed d_law_mixed ["source", "some"] (spD K 2 phi_law_mixed) ∧ mg "_law_mixed" = some (.ref f_law_mixed) ∧ PySem.W.keepIn K (.ref f_law_mixed) = true ∧ Binds K d_law_mixed ["source", "some"] []) {f_law_pick : Addr} {d_law_pick : FuncData} (G_law_pick : FnG P w K mg base 1 f_law_pick d_law_pick ["source", "many"] (spD K 2 phi_law_pick) ∧ mg "_law_pick" = some (.ref f_law_pick) ∧ PySem.W.keepIn K (.ref f_law_pick) = true ∧ Binds K d_law_pick ["source", "many"] []) : FnG P w K mg base 3 f fd ["source", "many"] (spD K 2 phi_law_signed) :=
  fn_d (k := 2) (g := g_law_signed) (N := ["source", "many", "signs", "road"]) (ps := ["source", "many"]) (fun_of F) sc_law_signed fun cdv A outer s H hgu hr => (dss_cons (ds_set 2 sc_law_signed.nd (de_callT opN_tup (by rfl) T.n_tuple bt_tuple (dos_cons (de_do (df_de (df_lc (own := [("road", 3)]) (el := law_signed_e1) (by rfl) sc_law_signed.nd (di_range1 (by rfl) T.n_range (da_cons (de_var 1) da_nil)) (blkOk_by (N := ["source", "many", "signs", "road"]) (sc := defScope s_law_signed) (by decide +kernel)) (by decide) (gkn_set 3) (fun _ _ _ _ _ => (dg_name 3 sc_law_signed.nd)) (fun _ _ _ _ _ => dts_nil) (fun _ _ _ _ _ => (de_bin op2_sub (de_do (de_const pe_int fun _ => .int _)) (de_do (de_bin op2_mul (de_do (de_const pe_int fun _ => .int _)) (de_do (de_call G_law_pick.1 hgu (hr.mono (by decide)) G_law_pick.2.1 G_law_pick.2.2.1 G_law_pick.2.2.2 (dos_cons (do_slot 0) (dos_cons (de_do (de_const pe_int fun _ => .int _)) dos_nil)) (by rfl) (by rfl) (by decide) (by rfl) (by rfl) (len_cons (len_cons len_nil))))))))))) dos_nil))) (dss_cons (ds_ret (de_tup (da_cons (de_callT opN_tup (by rfl) T.n_tuple bt_tuple (dos_cons (de_do (de_call G_law_mixed.1 hgu (hr.mono (by decide)) G_law_mixed.2.1 G_law_mixed.2.2.1 G_law_mixed.2.2.2 (dos_cons (do_slot 0) (dos_cons (de_do (df_de (df_lrg1 (by rfl) (by rfl) T.n_list (by rfl) T.n_range (de_var 1)))) dos_nil)) (by rfl) (by rfl) (by decide) (by rfl) (by rfl) (len_cons (len_cons len_nil)))) dos_nil)) (da_cons (de_var 2) da_nil)))) dss_nil))
theorem sc_maps_followed : FnScope ["one", "other", "signs", "road", "sign"] ["one", "other"] (defScope s_maps_followed) := ⟨rfl, rfl, rfl, by decide +kernel, rfl, by decide +kernel, by decide +kernel⟩
theorem ok_maps_followed {f : Addr} {fd : FuncData} (T : Txt mg) (F : Fd K "maps_followed" s_maps_followed f fd) : FnG P w K mg base 1 f fd ["one", "other"] (spD K 2 phi_maps_followed) :=
  fn_d (k := 0) (g := g_maps_followed) (N := ["one", "other", "signs", "road", "sign"]) (ps := ["one", "other"]) (fun_of F) sc_maps_followed fun cdv A outer s H hgu hr => (dss_cons (ds_setLc 2 (own := [("road", 3), ("sign", 4)]) (el := maps_followed_e1) (by rfl) sc_maps_followed.nd (di_zips2 (by rfl) T.n_zip (da_cons (de_ix (rm1 hr) (do_slot 0) (de_do (de_const pe_int fun _ => .int _))) (da_cons (de_ix (rm1 hr) (do_slot 0) (de_do (de_const pe_int fun _ => .int _))) da_nil))) (blkOk_by (N := ["one", "other", "signs", "road", "sign"]) (sc := defScope s_maps_followed) (by decide +kernel)) (by decide) (gkn_tup (gkn_conss (gkn_set 3) (gkn_conss (gkn_set 4) gkn_nils))) (fun _ _ _ _ _ => (dg_tup (by rfl) (dgs_cons (dg_name 3 sc_maps_followed.nd) (dgs_cons (dg_name 4 sc_maps_followed.nd) dgs_nil)))) (fun _ _ _ _ _ => dts_nil) (fun _ _ _ _ _ => (de_bin op2_mul (do_slot 4) (de_do (de_ix (rm1 hr) (de_do (de_ix (rm1 hr) (do_slot 1) (de_do (de_const pe_int fun _ => .int _)))) (do_slot 3)))))) (dss_cons (ds_ret (de_tup (da_cons (de_callT opN_tup (by rfl) T.n_tuple bt_tuple (dos_cons (de_do (df_de (df_lc (own := [("road", 3)]) (el := maps_followed_e2) (by rfl) sc_maps_followed.nd (di_seq (de_ix (rm1 hr) (do_slot 0) (de_do (de_const pe_int fun _ => .int _)))) (blkOk_by (N := ["one", "other", "signs", "road", "sign"]) (sc := defScope s_maps_followed) (by decide +kernel)) (by decide) (gkn_set 3) (fun _ _ _ _ _ => (dg_name 3 sc_maps_followed.nd)) (fun _ _ _ _ _ => dts_nil) (fun _ _ _ _ _ => (de_ix (rm1 hr) (de_do (de_ix (rm1 hr) (do_slot 1) (de_do (de_const pe_int fun _ => .int _)))) (do_slot 3)))))) dos_nil)) (da_cons (de_callT opN_tup (by rfl) T.n_tuple bt_tuple (dos_cons (do_slot 2) dos_nil)) da_nil)))) dss_nil))
theorem sc_map_back : FnScope ["signed", "many", "road"] ["signed"] (defScope s_map_back) := ⟨rfl, rfl, rfl, by decide +kernel, rfl, by decide +kernel, by decide +kernel⟩
theorem ok_map_back {f : Addr} {fd : FuncData} (T : Txt mg) (F : Fd K "map_back" s_map_back f fd) {f_row_led : Addr} {d_row_led : FuncData} (G_row_led : FnG P w K mg base 1 f_row_led d_row_led ["signed", "row"] (spD K 2 phi_row_led) ∧ mg "row_led" = some (.ref f_row_led) ∧ PySem.W.keepIn K (.ref f_row_led) = true ∧ Binds K d_row_led ["signed", "row"] []) : FnG P w K mg base 2 f fd ["signed"] (spD K 1 phi_map_back) :=
  fn_d (k := 1) (g := g_map_back) (N := ["signed", "many", "road"]) (ps := ["signed"]) (fun_of F) sc_map_back fun cdv A outer s H hgu hr => (dss_cons (ds_set 1 sc_map_back.nd (de_callB opN_len (by rfl) T.n_len bt_len (dos_cons (de_do (de_ix (rm1 hr) (do_slot 0) (de_do (de_const pe_int fun _ => .int _)))) dos_nil))) (dss_cons (ds_ret (de_tup (da_cons (de_callT opN_tup (by rfl) T.n_tuple bt_tuple (dos_cons (de_do (df_de (df_lc (own := [("road", 2)]) (el := map_back_e1) (by rfl) sc_map_back.nd (di_range1 (by rfl) T.n_range (da_cons (de_var 1) da_nil)) (blkOk_by (N := ["signed", "many", "road"]) (sc := defScope s_map_back) (by decide +kernel)) (by decide) (gkn_set 2) (fun _ _ _ _ _ => (dg_name 2 sc_map_back.nd)) (fun _ _ _ _ _ => dts_nil) (fun _ _ _ _ _ => (de_met (opM_index (rm65 hr)) (de_do (de_ix (rm1 hr) (do_slot 0) (de_do (de_const pe_int fun _ => .int _)))) (dos_cons (do_slot 2) dos_nil)))))) dos_nil)) (da_cons (de_call G_row_led.1 hgu (hr.mono (by decide)) G_row_led.2.1 G_row_led.2.2.1 G_row_led.2.2.2 (dos_cons (do_slot 0) (dos_cons (de_do (de_bin op2_mul (de_do (de_tup (da_cons (de_const pe_int fun _ => .int _) da_nil))) (do_slot 1))) dos_nil)) (by rfl) (by rfl) (by decide) (by rfl) (by rfl) (len_cons (len_cons len_nil))) da_nil)))) dss_nil))
theorem sc_law_led : FnScope ["signed", "row", "found", "road", "number"] ["signed", "row"] (defScope s_law_led) := ⟨rfl, rfl, rfl, by decide +kernel, rfl, by decide +kernel, by decide +kernel⟩
theorem ok_law_led {f : Addr} {fd : FuncData} (T : Txt mg) (F : Fd K "_law_led" s_law_led f fd) : FnG P w K mg base 1 f fd ["signed", "row"] (spD K 2 phi_law_led) :=
  fn_d (k := 0) (g := g_law_led) (N := ["signed", "row", "found", "road", "number"]) (ps := ["signed", "row"]) (fun_of F) sc_law_led fun cdv A outer s H hgu hr => (dss_cons (ds_setL 2 sc_law_led.nd (df_bin fr2_repL (de_do (df_de (df_lst (da_cons (de_const pe_int fun _ => .int _) da_nil)))) (de_do (de_callB opN_len (by rfl) T.n_len bt_len (dos_cons (do_slot 1) dos_nil))))) (dss_cons (ds_for (b := law_led_b1) PassesOwn.never (by rfl) (di_enum (by rfl) T.n_enumerate (da_cons (de_var 1) da_nil)) (dg_tup (by rfl) (dgs_cons (dg_name 3 sc_law_led.nd) (dgs_cons (dg_name 4 sc_law_led.nd) dgs_nil))) (dss_cons (ds_setI 2 (rm1 hr) (de_bin op2_mul (de_do (de_ix (rm1 hr) (de_do (de_ix (rm1 hr) (do_slot 0) (de_do (de_const pe_int fun _ => .int _)))) (do_slot 3))) (do_slot 4)) (de_ix (rm1 hr) (de_do (de_ix (rm1 hr) (do_slot 0) (de_do (de_const pe_int fun _ => .int _)))) (do_slot 3))) dss_nil)) (dss_cons (ds_ret (de_callT opN_tup (by rfl) T.n_tuple bt_tuple (dos_cons (do_slot 2) dos_nil))) dss_nil)))
theorem sc_is_whole : FnScope ["value"] ["value"] (defScope s_is_whole) := ⟨rfl, rfl, rfl, by decide +kernel, rfl, by decide +kernel, by decide +kernel⟩
theorem ok_is_whole {f : Addr} {fd : FuncData} (T : Txt mg) (F : Fd K "is_whole" s_is_whole f fd) : FnG P w K mg base 1 f fd ["value"] (spD K 1 phi_is_whole) :=
  fn_d (k := 0) (g := g_is_whole) (N := ["value"]) (ps := ["value"]) (fun_of F) sc_is_whole fun cdv A outer s H hgu hr => (dss_cons (ds_ret (de_and (de_isi (T := "int") bt_int T.n_int (by rfl) (by rfl) T.n_isinstance (do_slot 0)) (de_one (de_not (de_isi (T := "bool") bt_bool T.n_bool (by rfl) (by rfl) T.n_isinstance (do_slot 0)))))) dss_nil)
theorem sc_is_whole_row : FnScope ["many", "value", "one"] ["many", "value"] (defScope s_is_whole_row) := ⟨rfl, rfl, rfl, by decide +kernel, rfl, by decide +kernel, by decide +kernel⟩
theorem ok_is_whole_row {f : Addr} {fd : FuncData} (T : Txt mg) (F : Fd K "is_whole_row" s_is_whole_row f fd) {f_is_whole : Addr} {d_is_whole : FuncData} (G_is_whole : FnG P w K mg base 1 f_is_whole d_is_whole ["value"] (spD K 1 phi_is_whole) ∧ mg "is_whole" = some (.ref f_is_whole) ∧ PySem.W.keepIn K (.ref f_is_whole) = true ∧ Binds K d_is_whole ["value"] []) : FnG P w K mg base 2 f fd ["many", "value"] (spD K 2 phi_is_whole_row) :=
  fn_d (k := 1) (g := g_is_whole_row) (N := ["many", "value", "one"]) (ps := ["many", "value"]) (fun_of F) sc_is_whole_row fun cdv A outer s H hgu hr => (dss_cons (ds_ret (de_and (de_isi (T := "tuple") bt_tuple T.n_tuple (by rfl) (by rfl) T.n_isinstance (do_slot 1)) (de_and (de_cmp (op2_eq (rm64 hr)) (de_do (de_callB opN_len (by rfl) T.n_len bt_len (dos_cons (do_slot 1) dos_nil))) (do_slot 0)) (de_one (de_callB (opN_all (by rfl)) (by rfl) T.n_all bt_all (dos_cons (de_do (df_de (df_lc (own := [("one", 2)]) (el := (cCall phi_is_whole (cCons (mSlot 2) (ret [])))) (by rfl) sc_is_whole_row.nd (di_seq (de_var 1)) (blkOk_by (N := ["many", "value", "one"]) (sc := defScope s_is_whole_row) (by decide +kernel)) (by decide) (gkn_set 2) (fun _ _ _ _ _ => (dg_name 2 sc_is_whole_row.nd)) (fun _ _ _ _ _ => dts_nil) (fun _ _ _ _ _ => (de_call G_is_whole.1 hgu (hr.mono (by decide)) G_is_whole.2.1 G_is_whole.2.2.1 G_is_whole.2.2.2 (dos_cons (do_slot 2) dos_nil) (by rfl) (by rfl) (by decide) (by rfl) (by rfl) (len_cons len_nil)))))) dos_nil)))))) dss_nil)
theorem sc_is_signed_map : FnScope ["many", "value", "one", "sign"] ["many", "value"] (defScope s_is_signed_map) := ⟨rfl, rfl, rfl, by decide +kernel, rfl, by decide +kernel, by decide +kernel⟩
theorem ok_is_signed_map {f : Addr} {fd : FuncData} (T : Txt mg) (F : Fd K "is_signed_map" s_is_signed_map f fd) {f_is_whole_row : Addr} {d_is_whole_row : FuncData} (G_is_whole_row : FnG P w K mg base 2 f_is_whole_row d_is_whole_row ["many", "value"] (spD K 2 phi_is_whole_row) ∧ mg "is_whole_row" = some (.ref f_is_whole_row) ∧ PySem.W.keepIn K (.ref f_is_whole_row) = true ∧ Binds K d_is_whole_row ["many", "value"] []) : FnG P w K mg base 3 f fd ["many", "value"] (spD K 2 phi_is_signed_map) :=
  fn_d (k := 2) (g := g_is_signed_map) (N := ["many", "value", "one", "sign"]) (ps := ["many", "value"]) (fun_of F) sc_is_signed_map fun cdv A outer s H hgu hr => (dss_cons (ds_if (DW.dt (dw_or (dt_not (dt_val (de_isi (T := "tuple") bt_tuple T.n_tuple (by rfl) (by rfl) T.n_isinstance (do_slot 1)))) (dw_or (dt_cmp (op2_ne (rm64 hr)) (de_do (de_callB opN_len (by rfl) T.n_len bt_len (dos_cons (do_slot 1) dos_nil))) (de_do (de_const pe_int fun _ => .int _))) (dw_or1 (dt_not (dt_val (de_callB (opN_all (by rfl)) (by rfl) T.n_all bt_all (dos_cons (de_do (df_de (df_lc (own := [("one", 2)]) (el := is_signed_map_e1) (by rfl) sc_is_signed_map.nd (di_seq (de_var 1)) (blkOk_by (N := ["many", "value", "one", "sign"]) (sc := defScope s_is_signed_map) (by decide +kernel)) (by decide) (gkn_set 2) (fun _ _ _ _ _ => (dg_name 2 sc_is_signed_map.nd)) (fun _ _ _ _ _ => dts_nil) (fun _ _ _ _ _ => (de_call G_is_whole_row.1 hgu (hr.mono (by decide)) G_is_whole_row.2.1 G_is_whole_row.2.2.1 G_is_whole_row.2.2.2 (dos_cons (do_slot 0) (dos_cons (do_slot 2) dos_nil)) (by rfl) (by rfl) (by decide) (by rfl) (by rfl) (len_cons (len_cons len_nil))))))) dos_nil)))))))) (dss_cons (ds_ret (de_const pe_bl fun _ => .bl _)) dss_nil) dss_nil) (dss_cons (ds_ret (de_and (de_cmp (op2_eq (rm64 hr)) (de_do (df_de (df_callB frN_sorted (by rfl) T.n_sorted bt_sorted (dos_cons (de_do (de_ix (rm1 hr) (do_slot 1) (de_do (de_const pe_int fun _ => .int _)))) dos_nil)))) (de_do (df_de (df_lrg1 (by rfl) (by rfl) T.n_list (by rfl) T.n_range (de_var 0))))) (de_one (de_callB (opN_all (by rfl)) (by rfl) T.n_all bt_all (dos_cons (de_do (df_de (df_lc (own := [("sign", 3)]) (el := is_signed_map_e2) (by rfl) sc_is_signed_map.nd (di_seq (de_ix (rm1 hr) (do_slot 1) (de_do (de_const pe_int fun _ => .int _)))) (blkOk_by (N := ["many", "value", "one", "sign"]) (sc := defScope s_is_signed_map) (by decide +kernel)) (by decide) (gkn_set 3) (fun _ _ _ _ _ => (dg_name 3 sc_is_signed_map.nd)) (fun _ _ _ _ _ => dts_nil) (fun _ _ _ _ _ => (de_cmp (op2_in (rm65 hr)) (do_slot 3) (de_do (de_tup (da_cons (de_const pe_int fun _ => .int _) (da_cons (de_neg (de_const pe_int fun _ => .int _)) da_nil))))))))) dos_nil))))) dss_nil))
theorem sc_law_whole : FnScope ["value"] ["value"] (defScope s_law_whole) := ⟨rfl, rfl, rfl, by decide +kernel, rfl, by decide +kernel, by decide +kernel⟩
theorem ok_law_whole {f : Addr} {fd : FuncData} (T : Txt mg) (F : Fd K "_law_whole" s_law_whole f fd) : FnG P w K mg base 1 f fd ["value"] (spD K 1 phi_law_whole) :=
  fn_d (k := 0) (g := g_law_whole) (N := ["value"]) (ps := ["value"]) (fun_of F) sc_law_whole fun cdv A outer s H hgu hr => (dss_cons (ds_ret (de_and (de_isi (T := "int") bt_int T.n_int (by rfl) (by rfl) T.n_isinstance (do_slot 0)) (de_one (de_not (de_isi (T := "bool") bt_bool T.n_bool (by rfl) (by rfl) T.n_isinstance (do_slot 0)))))) dss_nil)
theorem sc_law_is_signed : FnScope ["many", "value", "one", "x"] ["many", "value"] (defScope s_law_is_signed) := ⟨rfl, rfl, rfl, by decide +kernel, rfl, by decide +kernel, by decide +kernel⟩
theorem ok_law_is_signed {f : Addr} {fd : FuncData} (T : Txt mg) (F : Fd K "_law_is_signed" s_law_is_signed f fd) {f_law_whole : Addr} {d_law_whole : FuncData} (G_law_whole : FnG P w K mg base 1 f_law_whole d_law_whole ["value"] (spD K 1 phi_law_whole) ∧ mg "_law_whole" = some (.ref f_law_whole) ∧ PySem.W.keepIn K (.ref f_law_whole) = true ∧ Binds K d_law_whole ["value"] []) : FnG P w K mg base 2 f fd ["many", "value"] (spD K 2 phi_law_is_signed) :=
  fn_d (k := 1) (g := g_law_is_signed) (N := ["many", "value", "one", "x"]) (ps := ["many", "value"]) (fun_of F) sc_law_is_signed fun cdv A outer s H hgu hr => (dss_cons (ds_if (DW.dt (dw_or (dt_not (dt_val (de_isi (T := "tuple") bt_tuple T.n_tuple (by rfl) (by rfl) T.n_isinstance (do_slot 1)))) (dw_or1 (dt_cmp (op2_ne (rm64 hr)) (de_do (de_callB opN_len (by rfl) T.n_len bt_len (dos_cons (do_slot 1) dos_nil))) (de_do (de_const pe_int fun _ => .int _)))))) (dss_cons (ds_ret (de_const pe_bl fun _ => .bl _)) dss_nil) dss_nil) (dss_cons (ds_for (b := law_is_signed_b1) PassesOwn.never (by rfl) (di_seq (de_var 1)) (dg_name 2 sc_law_is_signed.nd) (dss_cons (ds_if (DW.dt (dw_or (dt_not (dt_val (de_isi (T := "tuple") bt_tuple T.n_tuple (by rfl) (by rfl) T.n_isinstance (do_slot 2)))) (dw_or (dt_cmp (op2_ne (rm64 hr)) (de_do (de_callB opN_len (by rfl) T.n_len bt_len (dos_cons (do_slot 2) dos_nil))) (do_slot 0)) (dw_or1 (dt_cmp (op2_ne (rm64 hr)) (de_do (df_de (df_lc (own := [("x", 3)]) (el := (mVar 3)) (by rfl) sc_law_is_signed.nd (di_seq (de_var 2)) (blkOk_by (N := ["many", "value", "one", "x"]) (sc := defScope s_law_is_signed) (by decide +kernel)) (by decide) (gkn_set 3) (fun _ _ _ _ _ => (dg_name 3 sc_law_is_signed.nd)) (fun _ _ _ _ _ => (dts_one (dt_not (dt_val (de_call G_law_whole.1 hgu (hr.mono (by decide)) G_law_whole.2.1 G_law_whole.2.2.1 G_law_whole.2.2.2 (dos_cons (do_slot 3) dos_nil) (by rfl) (by rfl) (by decide) (by rfl) (by rfl) (len_cons len_nil)))))) (fun _ _ _ _ _ => (de_var 3))))) (de_do (df_de (df_lst da_nil)))))))) (dss_cons (ds_ret (de_const pe_bl fun _ => .bl _)) dss_nil) dss_nil) dss_nil)) (dss_cons (ds_ret (de_and (de_cmp (op2_eq (rm64 hr)) (de_do (df_de (df_callB frN_sorted (by rfl) T.n_sorted bt_sorted (dos_cons (de_do (de_ix (rm1 hr) (do_slot 1) (de_do (de_const pe_int fun _ => .int _)))) dos_nil)))) (de_do (df_de (df_lrg1 (by rfl) (by rfl) T.n_list (by rfl) T.n_range (de_var 0))))) (de_one (de_cmp (op2_eq (rm64 hr)) (de_do (df_de (df_lc (own := [("x", 3)]) (el := (mVar 3)) (by rfl) sc_law_is_signed.nd (di_seq (de_ix (rm1 hr) (do_slot 1) (de_do (de_const pe_int fun _ => .int _)))) (blkOk_by (N := ["many", "value", "one", "x"]) (sc := defScope s_law_is_signed) (by decide +kernel)) (by decide) (gkn_set 3) (fun _ _ _ _ _ => (dg_name 3 sc_law_is_signed.nd)) (fun _ _ _ _ _ => (dts_one (dt_cmp (op2_notin (rm65 hr)) (do_slot 3) (de_do (de_tup (da_cons (de_const pe_int fun _ => .int _) (da_cons (de_neg (de_const pe_int fun _ => .int _)) da_nil))))))) (fun _ _ _ _ _ => (de_var 3))))) (de_do (df_de (df_lst da_nil))))))) dss_nil)))
theorem sc_law : FnScope ["script", "source", "lap", "many", "one", "other", "row", "late", "kept", "told", "back", "both", "noughts", "k", "odd", "values", "value", "shown", "turn", "road", "x", "a", "b"] ["script"] (defScope s_law) := ⟨rfl, rfl, rfl, by decide +kernel, rfl, by decide +kernel, by decide +kernel⟩
theorem ok_law {f : Addr} {fd : FuncData} (T : Txt mg) (F : Fd K "law" s_law f fd) {f_law_is_signed : Addr} {d_law_is_signed : FuncData} (G_law_is_signed : FnG P w K mg base 2 f_law_is_signed d_law_is_signed ["many", "value"] (spD K 2 phi_law_is_signed) ∧ mg "_law_is_signed" = some (.ref f_law_is_signed) ∧ PySem.W.keepIn K (.ref f_law_is_signed) = true ∧ Binds K d_law_is_signed ["many", "value"] []) {f_law_led : Addr} {d_law_led : FuncData} (G_law_led : FnG P w K mg base 1 f_law_led d_law_led ["signed", "row"] (spD K 2 phi_law_led) ∧ mg "_law_led" = some (.ref f_law_led) ∧ PySem.W.keepIn K (.ref f_law_led) = true ∧ Binds K d_law_led ["signed", "row"] []) {f_law_of : Addr} {d_law_of : FuncData} (G_law_of : FnG P w K mg base 2 f_law_of d_law_of ["source", "some"] (spD K 2 phi_law_of) ∧ mg "_law_of" = some (.ref f_law_of) ∧ PySem.W.keepIn K (.ref f_law_of) = true ∧ Binds K d_law_of ["source", "some"] []) {f_law_pick : Addr} {d_law_pick : FuncData} (G_law_pick : FnG P w K mg base 1 f_law_pick d_law_pick ["source", "many"] (spD K 2 phi_law_pick) ∧ mg "_law_pick" = some (.ref f_law_pick) ∧ PySem.W.keepIn K (.ref f_law_pick) = true ∧ Binds K d_law_pick ["source", "many"] []) {f_law_signed : Addr} {d_law_signed : FuncData} (G_law_signed : FnG P w K mg base 3 f_law_signed d_law_signed ["source", "many"] (spD K 2 phi_law_signed) ∧ mg "_law_signed" = some (.ref f_law_signed) ∧ PySem.W.keepIn K (.ref f_law_signed) = true ∧ Binds K d_law_signed ["source", "many"] []) {f_law_source : Addr} {d_law_source : FuncData} (G_law_source : FnG P w K mg base 1 f_law_source d_law_source ["script"] (spSource K) ∧ mg "_law_source" = some (.ref f_law_source) ∧ PySem.W.keepIn K (.ref f_law_source) = true ∧ Binds K d_law_source ["script"] []) {f_is_signed_map : Addr} {d_is_signed_map : FuncData} (G_is_signed_map : FnG P w K mg base 3 f_is_signed_map d_is_signed_map ["many", "value"] (spD K 2 phi_is_signed_map) ∧ mg "is_signed_map" = some (.ref f_is_signed_map) ∧ PySem.W.keepIn K (.ref f_is_signed_map) = true ∧ Binds K d_is_signed_map ["many", "value"] []) {f_map_back : Addr} {d_map_back : FuncData} (G_map_back : FnG P w K mg base 2 f_map_back d_map_back ["signed"] (spD K 1 phi_map_back) ∧ mg "map_back" = some (.ref f_map_back) ∧ PySem.W.keepIn K (.ref f_map_back) = true ∧ Binds K d_map_back ["signed"] []) {f_maps_followed : Addr} {d_maps_followed : FuncData} (G_maps_followed : FnG P w K mg base 1 f_maps_followed d_maps_followed ["one", "other"] (spD K 2 phi_maps_followed) ∧ mg "maps_followed" = some (.ref f_maps_followed) ∧ PySem.W.keepIn K (.ref f_maps_followed) = true ∧ Binds K d_maps_followed ["one", "other"] []) {f_row_led : Addr} {d_row_led : FuncData} (G_row_led : FnG P w K mg base 1 f_row_led d_row_led ["signed", "row"] (spD K 2 phi_row_led) ∧ mg "row_led" = some (.ref f_row_led) ∧ PySem.W.keepIn K (.ref f_row_led) = true ∧ Binds K d_row_led ["signed", "row"] []) (hg : ∀ ns : List Int, ns.length ≤ 63 → (∀ z ∈ ns, Builtin.Int.intBits z ≤ 1048576) → ∃ s', g_law (envL 21, srcOf ns) = some (.rt (.bool true), s')) : FnG P w K mg base 4 f fd ["script"] (spLaw K) := by
  refine law_fn (k := 3) (n := 21) (fun_of F) sc_law rfl (fun cdv A outer s H hgu hr => ?_) hg
  exact pss_cons (ps_set (i := 1) sc_law.nd rfl (by first | exact Or.inl rfl | exact Or.inr rfl) (peG_call G_law_source.1 hgu (hr.mono (by decide)) rfl G_law_source.2.1 G_law_source.2.2.1 G_law_source.2.2.2 (pa_cons (pv 0) pa_nil) (by decide) rfl rfl)) (dss_cons (ds_for (b := law_b5) PassesOwn.never (by rfl) (di_range1 (by rfl) T.n_range (da_cons (de_const pe_int fun _ => .int _) da_nil)) (dg_name 2 sc_law.nd) (dss_cons (ds_set 3 sc_law.nd (de_bin op2_add (de_do (de_const pe_int fun _ => .int _)) (de_do (de_call G_law_pick.1 hgu (hr.mono (by decide)) G_law_pick.2.1 G_law_pick.2.2.1 G_law_pick.2.2.2 (dos_cons (do_slot 1) (dos_cons (de_do (de_const pe_int fun _ => .int _)) dos_nil)) (by rfl) (by rfl) (by decide) (by rfl) (by rfl) (len_cons (len_cons len_nil)))))) (dss_cons (ds_asgT (hlen := (len_V (len_V len_nil))) (by rfl) (dxs_v (de_call G_law_signed.1 hgu (hr.mono (by decide)) G_law_signed.2.1 G_law_signed.2.2.1 G_law_signed.2.2.2 (dos_cons (do_slot 1) (dos_cons (do_slot 3) dos_nil)) (by rfl) (by rfl) (by decide) (by rfl) (by rfl) (len_cons (len_cons len_nil))) (dxs_v (de_call G_law_signed.1 hgu (hr.mono (by decide)) G_law_signed.2.1 G_law_signed.2.2.1 G_law_signed.2.2.2 (dos_cons (do_slot 1) (dos_cons (do_slot 3) dos_nil)) (by rfl) (by rfl) (by decide) (by rfl) (by rfl) (len_cons (len_cons len_nil))) dxs_nil)) (dzs_v (dg_name 4 sc_law.nd) (dzs_v (dg_name 5 sc_law.nd) dzs_nil))) (dss_cons (ds_asg (df_de (df_lc (own := [("turn", 18)]) (el := law_e2) (by rfl) sc_law.nd (di_range1 (by rfl) T.n_range (da_cons (de_const pe_int fun _ => .int _) da_nil)) (blkOk_by (N := ["script", "source", "lap", "many", "one", "other", "row", "late", "kept", "told", "back", "both", "noughts", "k", "odd", "values", "value", "shown", "turn", "road", "x", "a", "b"]) (sc := defScope s_law) (by decide +kernel)) (by decide) (gkn_set 18) (fun _ _ _ _ _ => (dg_name 18 sc_law.nd)) (fun _ _ _ _ _ => dts_nil) (fun _ _ _ _ _ => (de_callT opN_tup (by rfl) T.n_tuple bt_tuple (dos_cons (de_do (df_de (df_lc (own := [("road", 19)]) (el := law_e1) (by rfl) sc_law.nd (di_range1 (by rfl) T.n_range (da_cons (de_var 3) da_nil)) (blkOk_by (N := ["script", "source", "lap", "many", "one", "other", "row", "late", "kept", "told", "back", "both", "noughts", "k", "odd", "values", "value", "shown", "turn", "road", "x", "a", "b"]) (by kernel_rfl)) (by decide) (gkn_set 19) (fun _ _ _ _ _ => (dg_name 19 sc_law.nd)) (fun _ _ _ _ _ => dts_nil) (fun _ _ _ _ _ => (de_bin op2_sub (de_do (de_call G_law_pick.1 hgu (hr.mono (by decide)) G_law_pick.2.1 G_law_pick.2.2.1 G_law_pick.2.2.2 (dos_cons (do_slot 1) (dos_cons (de_do (de_const pe_int fun _ => .int _)) dos_nil)) (by rfl) (by rfl) (by decide) (by rfl) (by rfl) (len_cons (len_cons len_nil)))) (de_do (de_const pe_int fun _ => .int _))))))) dos_nil))))) (dg_tup (by rfl) (dgs_cons (dg_name 6 sc_law.nd) (dgs_cons (dg_name 7 sc_law.nd) dgs_nil)))) (dss_cons (ds_par2 8 9 (by rfl) sc_law.nd (dxs_v (de_callB (opN_repr hgu (rm66 hr)) (by rfl) T.n_repr bt_repr (dos_cons (de_do (df_de (df_lst (da_cons (de_var 4) (da_cons (de_var 5) (da_cons (de_var 6) da_nil)))))) dos_nil)) (dxs_v (de_call G_row_led.1 hgu (hr.mono (by decide)) G_row_led.2.1 G_row_led.2.2.1 G_row_led.2.2.2 (dos_cons (do_slot 4) (dos_cons (do_slot 6) dos_nil)) (by rfl) (by rfl) (by decide) (by rfl) (by rfl) (len_cons (len_cons len_nil))) dxs_nil))) (dss_cons (ds_set 10 sc_law.nd (de_callT opN_tup (by rfl) T.n_tuple bt_tuple (dos_cons (de_do (df_de (df_lc (own := [("x", 20)]) (el := law_e3) (by rfl) sc_law.nd (di_range1 (by rfl) T.n_range (da_cons (de_var 3) da_nil)) (blkOk_by (N := ["script", "source", "lap", "many", "one", "other", "row", "late", "kept", "told", "back", "both", "noughts", "k", "odd", "values", "value", "shown", "turn", "road", "x", "a", "b"]) (sc := defScope s_law) (by decide +kernel)) (by decide) (gkn_set 20) (fun _ _ _ _ _ => (dg_name 20 sc_law.nd)) (fun _ _ _ _ _ => dts_nil) (fun _ _ _ _ _ => (de_met (opM_index (rm65 hr)) (de_do (de_ix (rm1 hr) (do_slot 4) (de_do (de_const pe_int fun _ => .int _)))) (dos_cons (do_slot 20) dos_nil)))))) dos_nil))) (dss_cons (ds_if (DW.dt (dw_or (dt_cmp (op2_ne (rm64 hr)) (de_do (de_callB (opN_repr hgu (rm66 hr)) (by rfl) T.n_repr bt_repr (dos_cons (do_slot 9) dos_nil))) (de_do (de_callB (opN_repr hgu (rm66 hr)) (by rfl) T.n_repr bt_repr (dos_cons (de_do (de_call G_law_led.1 hgu (hr.mono (by decide)) G_law_led.2.1 G_law_led.2.2.1 G_law_led.2.2.2 (dos_cons (do_slot 4) (dos_cons (do_slot 6) dos_nil)) (by rfl) (by rfl) (by decide) (by rfl) (by rfl) (len_cons (len_cons len_nil)))) dos_nil)))) (dw_or1 (dt_cmp (op2_ne (rm64 hr)) (de_do (de_callB (opN_repr hgu (rm66 hr)) (by rfl) T.n_repr bt_repr (dos_cons (de_do (de_ix (rm1 hr) (de_do (de_call G_map_back.1 hgu (hr.mono (by decide)) G_map_back.2.1 G_map_back.2.2.1 G_map_back.2.2.2 (dos_cons (do_slot 4) dos_nil) (by rfl) (by rfl) (by decide) (by rfl) (by rfl) (len_cons len_nil))) (de_do (de_const pe_int fun _ => .int _)))) dos_nil))) (de_do (de_callB (opN_repr hgu (rm66 hr)) (by rfl) T.n_repr bt_repr (dos_cons (do_slot 10) dos_nil))))))) (dss_cons (ds_ret (de_const pe_bl fun _ => .bl _)) dss_nil) dss_nil) (dss_cons (ds_if (dt_cmp (op2_ne (rm64 hr)) (de_do (de_callB (opN_sum (by rfl)) (by rfl) T.n_sum bt_sum (dos_cons (de_do (df_de (df_lc (own := [("a", 21), ("b", 22)]) (el := (cOp2 mulD (mSlot 21) (mSlot 22))) (by rfl) sc_law.nd (di_zip2 (by rfl) T.n_zip (da_cons (de_var 9) (da_cons (de_call G_row_led.1 hgu (hr.mono (by decide)) G_row_led.2.1 G_row_led.2.2.1 G_row_led.2.2.2 (dos_cons (do_slot 4) (dos_cons (do_slot 7) dos_nil)) (by rfl) (by rfl) (by decide) (by rfl) (by rfl) (len_cons (len_cons len_nil))) da_nil))) (blkOk_by (N := ["script", "source", "lap", "many", "one", "other", "row", "late", "kept", "told", "back", "both", "noughts", "k", "odd", "values", "value", "shown", "turn", "road", "x", "a", "b"]) (sc := defScope s_law) (by decide +kernel)) (by decide) (gkn_tup (gkn_conss (gkn_set 21) (gkn_conss (gkn_set 22) gkn_nils))) (fun _ _ _ _ _ => (dg_tup (by rfl) (dgs_cons (dg_name 21 sc_law.nd) (dgs_cons (dg_name 22 sc_law.nd) dgs_nil)))) (fun _ _ _ _ _ => dts_nil) (fun _ _ _ _ _ => (de_bin op2_mul (do_slot 21) (do_slot 22)))))) dos_nil))) (de_do (de_callB (opN_sum (by rfl)) (by rfl) T.n_sum bt_sum (dos_cons (de_do (df_de (df_lc (own := [("a", 21), ("b", 22)]) (el := (cOp2 mulD (mSlot 21) (mSlot 22))) (by rfl) sc_law.nd (di_zip2 (by rfl) T.n_zip (da_cons (de_var 6) (da_cons (de_var 7) da_nil))) (blkOk_by (N := ["script", "source", "lap", "many", "one", "other", "row", "late", "kept", "told", "back", "both", "noughts", "k", "odd", "values", "value", "shown", "turn", "road", "x", "a", "b"]) (sc := defScope s_law) (by decide +kernel)) (by decide) (gkn_tup (gkn_conss (gkn_set 21) (gkn_conss (gkn_set 22) gkn_nils))) (fun _ _ _ _ _ => (dg_tup (by rfl) (dgs_cons (dg_name 21 sc_law.nd) (dgs_cons (dg_name 22 sc_law.nd) dgs_nil)))) (fun _ _ _ _ _ => dts_nil) (fun _ _ _ _ _ => (de_bin op2_mul (do_slot 21) (do_slot 22)))))) dos_nil)))) (dss_cons (ds_ret (de_const pe_bl fun _ => .bl _)) dss_nil) dss_nil) (dss_cons (ds_if (DW.dt (dw_or (dt_cmp (op2_ne (rm64 hr)) (de_do (de_call G_row_led.1 hgu (hr.mono (by decide)) G_row_led.2.1 G_row_led.2.2.1 G_row_led.2.2.2 (dos_cons (de_do (de_call G_map_back.1 hgu (hr.mono (by decide)) G_map_back.2.1 G_map_back.2.2.1 G_map_back.2.2.2 (dos_cons (do_slot 4) dos_nil) (by rfl) (by rfl) (by decide) (by rfl) (by rfl) (len_cons len_nil))) (dos_cons (do_slot 9) dos_nil)) (by rfl) (by rfl) (by decide) (by rfl) (by rfl) (len_cons (len_cons len_nil)))) (do_slot 6)) (dw_or1 (dt_cmp (op2_ne (rm64 hr)) (de_do (de_call G_map_back.1 hgu (hr.mono (by decide)) G_map_back.2.1 G_map_back.2.2.1 G_map_back.2.2.2 (dos_cons (de_do (de_call G_map_back.1 hgu (hr.mono (by decide)) G_map_back.2.1 G_map_back.2.2.1 G_map_back.2.2.2 (dos_cons (do_slot 4) dos_nil) (by rfl) (by rfl) (by decide) (by rfl) (by rfl) (len_cons len_nil))) dos_nil) (by rfl) (by rfl) (by decide) (by rfl) (by rfl) (len_cons len_nil))) (do_slot 4))))) (dss_cons (ds_ret (de_const pe_bl fun _ => .bl _)) dss_nil) dss_nil) (dss_cons (ds_par2 11 12 (by rfl) sc_law.nd (dxs_v (de_call G_maps_followed.1 hgu (hr.mono (by decide)) G_maps_followed.2.1 G_maps_followed.2.2.1 G_maps_followed.2.2.2 (dos_cons (do_slot 4) (dos_cons (do_slot 5) dos_nil)) (by rfl) (by rfl) (by decide) (by rfl) (by rfl) (len_cons (len_cons len_nil))) (dxs_v (de_tup (da_cons (de_trg1 (by rfl) (by rfl) T.n_tuple (by rfl) T.n_range (de_var 3)) (da_cons (de_bin op2_mul (de_do (de_tup (da_cons (de_const pe_int fun _ => .int _) da_nil))) (do_slot 3)) da_nil))) dxs_nil))) (dss_cons (ds_if (DW.dt (dw_or (dt_cmp (op2_ne (rm64 hr)) (de_do (de_call G_row_led.1 hgu (hr.mono (by decide)) G_row_led.2.1 G_row_led.2.2.1 G_row_led.2.2.2 (dos_cons (do_slot 11) (dos_cons (do_slot 6) dos_nil)) (by rfl) (by rfl) (by decide) (by rfl) (by rfl) (len_cons (len_cons len_nil)))) (de_do (de_call G_row_led.1 hgu (hr.mono (by decide)) G_row_led.2.1 G_row_led.2.2.1 G_row_led.2.2.2 (dos_cons (do_slot 5) (dos_cons (do_slot 9) dos_nil)) (by rfl) (by rfl) (by decide) (by rfl) (by rfl) (len_cons (len_cons len_nil))))) (dw_or1 (dt_cmp (op2_ne (rm64 hr)) (de_do (de_call G_maps_followed.1 hgu (hr.mono (by decide)) G_maps_followed.2.1 G_maps_followed.2.2.1 G_maps_followed.2.2.2 (dos_cons (do_slot 4) (dos_cons (de_do (de_call G_map_back.1 hgu (hr.mono (by decide)) G_map_back.2.1 G_map_back.2.2.1 G_map_back.2.2.2 (dos_cons (do_slot 4) dos_nil) (by rfl) (by rfl) (by decide) (by rfl) (by rfl) (len_cons len_nil))) dos_nil)) (by rfl) (by rfl) (by decide) (by rfl) (by rfl) (len_cons (len_cons len_nil)))) (do_slot 12))))) (dss_cons (ds_ret (de_const pe_bl fun _ => .bl _)) dss_nil) dss_nil) (dss_cons (ds_if (dt_cmp (op2_ne (rm64 hr)) (de_do (de_call G_maps_followed.1 hgu (hr.mono (by decide)) G_maps_followed.2.1 G_maps_followed.2.2.1 G_maps_followed.2.2.2 (dos_cons (de_do (de_call G_maps_followed.1 hgu (hr.mono (by decide)) G_maps_followed.2.1 G_maps_followed.2.2.1 G_maps_followed.2.2.2 (dos_cons (do_slot 4) (dos_cons (do_slot 5) dos_nil)) (by rfl) (by rfl) (by decide) (by rfl) (by rfl) (len_cons (len_cons len_nil)))) (dos_cons (do_slot 4) dos_nil)) (by rfl) (by rfl) (by decide) (by rfl) (by rfl) (len_cons (len_cons len_nil)))) (de_do (de_call G_maps_followed.1 hgu (hr.mono (by decide)) G_maps_followed.2.1 G_maps_followed.2.2.1 G_maps_followed.2.2.2 (dos_cons (do_slot 4) (dos_cons (de_do (de_call G_maps_followed.1 hgu (hr.mono (by decide)) G_maps_followed.2.1 G_maps_followed.2.2.1 G_maps_followed.2.2.2 (dos_cons (do_slot 5) (dos_cons (do_slot 4) dos_nil)) (by rfl) (by rfl) (by decide) (by rfl) (by rfl) (len_cons (len_cons len_nil)))) dos_nil)) (by rfl) (by rfl) (by decide) (by rfl) (by rfl) (len_cons (len_cons len_nil))))) (dss_cons (ds_ret (de_const pe_bl fun _ => .bl _)) dss_nil) dss_nil) (dss_cons (ds_set 13 sc_law.nd (de_call G_law_pick.1 hgu (hr.mono (by decide)) G_law_pick.2.1 G_law_pick.2.2.1 G_law_pick.2.2.2 (dos_cons (do_slot 1) (dos_cons (do_slot 3) dos_nil)) (by rfl) (by rfl) (by decide) (by rfl) (by rfl) (len_cons (len_cons len_nil)))) (dss_cons (ds_set 14 sc_law.nd (de_call G_law_of.1 hgu (hr.mono (by decide)) G_law_of.2.1 G_law_of.2.2.1 G_law_of.2.2.2 (dos_cons (do_slot 1) (dos_cons (de_do (df_de (df_lst (da_cons (de_const pe_non fun _ => .non) (da_cons (de_const pe_bl fun _ => .bl _) (da_cons (de_const pe_int fun _ => .int _) (da_cons (de_const pe_int fun _ => .int _) (da_cons (de_neg (de_const pe_int fun _ => .int _)) (da_cons (de_const pe_str fun _ => .str _) (da_cons (de_tup da_nil) (da_cons (df_de (df_lst (da_cons (de_const pe_int fun _ => .int _) da_nil))) (da_cons (de_var 3) da_nil)))))))))))) dos_nil)) (by rfl) (by rfl) (by decide) (by rfl) (by rfl) (len_cons (len_cons len_nil)))) (dss_cons (ds_setL 15 sc_law.nd (df_lst (da_cons (de_var 4) (da_cons (de_ix (rm1 hr) (do_slot 4) (de_do (de_const pe_int fun _ => .int _))) (da_cons (de_tup (da_cons (de_ix (rm1 hr) (do_slot 4) (de_do (de_const pe_int fun _ => .int _))) (da_cons (de_sl (de_do (de_ix (rm1 hr) (do_slot 4) (de_do (de_const pe_int fun _ => .int _)))) (dpo_some (de_const pe_int fun _ => .int _)) dpo_none) da_nil))) (da_cons (de_tup (da_cons (de_ix (rm1 hr) (do_slot 4) (de_do (de_const pe_int fun _ => .int _))) (da_cons (de_ix (rm1 hr) (do_slot 4) (de_do (de_const pe_int fun _ => .int _))) da_nil))) (da_cons (de_tup (da_cons (df_de (df_callT frN_list (by rfl) T.n_list bt_list (dos_cons (de_do (de_ix (rm1 hr) (do_slot 4) (de_do (de_const pe_int fun _ => .int _)))) dos_nil))) (da_cons (de_ix (rm1 hr) (do_slot 4) (de_do (de_const pe_int fun _ => .int _))) da_nil))) (da_cons (df_de (df_callT frN_list (by rfl) T.n_list bt_list (dos_cons (do_slot 4) dos_nil))) (da_cons (de_const pe_non fun _ => .non) (da_cons (de_tup da_nil) da_nil)))))))))) (dss_cons (ds_expr (de_ownL (i := 15) PySem.F.slot_list_append PySem.F.type_list_append mt_append h_append (da_cons (de_tup (da_cons (de_bin op2_add (de_do (de_bin op2_add (de_do (de_sl (de_do (de_ix (rm1 hr) (do_slot 4) (de_do (de_const pe_int fun _ => .int _)))) dpo_none (dpo_some (de_var 13)))) (de_do (de_tup (da_cons (de_var 14) da_nil))))) (de_do (de_sl (de_do (de_ix (rm1 hr) (do_slot 4) (de_do (de_const pe_int fun _ => .int _)))) (dpo_some (de_bin op2_add (do_slot 13) (de_do (de_const pe_int fun _ => .int _)))) dpo_none))) (da_cons (de_ix (rm1 hr) (do_slot 4) (de_do (de_const pe_int fun _ => .int _))) da_nil))) da_nil))) (dss_cons (ds_expr (de_ownL (i := 15) PySem.F.slot_list_append PySem.F.type_list_append mt_append h_append (da_cons (de_tup (da_cons (de_ix (rm1 hr) (do_slot 4) (de_do (de_const pe_int fun _ => .int _))) (da_cons (de_bin op2_add (de_do (de_bin op2_add (de_do (de_sl (de_do (de_ix (rm1 hr) (do_slot 4) (de_do (de_const pe_int fun _ => .int _)))) dpo_none (dpo_some (de_var 13)))) (de_do (de_tup (da_cons (de_var 14) da_nil))))) (de_do (de_sl (de_do (de_ix (rm1 hr) (do_slot 4) (de_do (de_const pe_int fun _ => .int _)))) (dpo_some (de_bin op2_add (do_slot 13) (de_do (de_const pe_int fun _ => .int _)))) dpo_none))) da_nil))) da_nil))) (dss_cons (ds_setL 15 sc_law.nd (df_bin fr2_addL (do_slot 15) (de_do (df_de (df_lst (da_cons (de_bin op2_add (do_slot 4) (de_do (de_tup (da_cons (de_const pe_int fun _ => .int _) da_nil)))) (da_cons (de_tup (da_cons (de_ix (rm1 hr) (do_slot 4) (de_do (de_const pe_int fun _ => .int _))) (da_cons (de_var 14) da_nil))) (da_cons (de_tup (da_cons (de_var 14) (da_cons (de_ix (rm1 hr) (do_slot 4) (de_do (de_const pe_int fun _ => .int _))) da_nil))) (da_cons (de_tup (da_cons (de_bin op2_mul (de_do (de_tup (da_cons (de_const pe_int fun _ => .int _) da_nil))) (do_slot 3)) (da_cons (de_ix (rm1 hr) (do_slot 4) (de_do (de_const pe_int fun _ => .int _))) da_nil))) (da_cons (de_var 14) (da_cons (de_var 11) da_nil))))))))))) (dss_cons (ds_rel 15 (ds_for (b := law_b4) PassesOwn.never (by rfl) (di_seq (de_var 15)) (dg_name 16 sc_law.nd) (dss_cons (ds_set 17 sc_law.nd (de_callB (opN_repr hgu (rm66 hr)) (by rfl) T.n_repr bt_repr (dos_cons (do_slot 16) dos_nil))) (dss_cons (ds_if (DW.dt (dw_or (dt_cmp (op2_ne (rm64 hr)) (de_do (de_callB (opN_repr hgu (rm66 hr)) (by rfl) T.n_repr bt_repr (dos_cons (de_do (de_call G_is_signed_map.1 hgu (hr.mono (by decide)) G_is_signed_map.2.1 G_is_signed_map.2.2.1 G_is_signed_map.2.2.2 (dos_cons (do_slot 3) (dos_cons (do_slot 16) dos_nil)) (by rfl) (by rfl) (by decide) (by rfl) (by rfl) (len_cons (len_cons len_nil)))) dos_nil))) (de_do (de_callB (opN_repr hgu (rm66 hr)) (by rfl) T.n_repr bt_repr (dos_cons (de_do (de_call G_law_is_signed.1 hgu (hr.mono (by decide)) G_law_is_signed.2.1 G_law_is_signed.2.2.1 G_law_is_signed.2.2.2 (dos_cons (do_slot 3) (dos_cons (do_slot 16) dos_nil)) (by rfl) (by rfl) (by decide) (by rfl) (by rfl) (len_cons (len_cons len_nil)))) dos_nil)))) (dw_or1 (dt_cmp (op2_ne (rm64 hr)) (de_do (de_callB (opN_repr hgu (rm66 hr)) (by rfl) T.n_repr bt_repr (dos_cons (do_slot 16) dos_nil))) (do_slot 17))))) (dss_cons (ds_ret (de_const pe_bl fun _ => .bl _)) dss_nil) dss_nil) dss_nil)))) (dss_cons (ds_if (dt_cmp (op2_ne (rm64 hr)) (de_do (de_callB (opN_repr hgu (rm66 hr)) (by rfl) T.n_repr bt_repr (dos_cons (de_do (df_de (df_lst (da_cons (de_var 4) (da_cons (de_var 5) (da_cons (de_var 6) da_nil)))))) dos_nil))) (do_slot 8)) (dss_cons (ds_ret (de_const pe_bl fun _ => .bl _)) dss_nil) dss_nil) dss_nil)))))))))))))))))))) (dss_cons (ds_ret (de_cmp (op2_eq (rm64 hr)) (de_do (de_call G_row_led.1 hgu (hr.mono (by decide)) G_row_led.2.1 G_row_led.2.2.1 G_row_led.2.2.2 (dos_cons (de_do (de_tup (da_cons (de_tup (da_cons (de_const pe_int fun _ => .int _) (da_cons (de_const pe_int fun _ => .int _) (da_cons (de_const pe_int fun _ => .int _) da_nil)))) (da_cons (de_tup (da_cons (de_const pe_int fun _ => .int _) (da_cons (de_neg (de_const pe_int fun _ => .int _)) (da_cons (de_const pe_int fun _ => .int _) da_nil)))) da_nil)))) (dos_cons (de_do (de_tup (da_cons (de_const pe_int fun _ => .int _) (da_cons (de_const pe_int fun _ => .int _) (da_cons (de_const pe_int fun _ => .int _) da_nil))))) dos_nil)) (by rfl) (by rfl) (by decide) (by rfl) (by rfl) (len_cons (len_cons len_nil)))) (de_do (de_tup (da_cons (de_neg (de_const pe_int fun _ => .int _)) (da_cons (de_const pe_int fun _ => .int _) (da_cons (de_const pe_int fun _ => .int _) da_nil))))))) dss_nil))
end
end DL.G
set_option Elab.async false
set_option linter.all false
set_option maxRecDepth 100000
set_option maxHeartbeats 4000000
/-! DL23: loops and lists over a range; a place set; signed rows. -/
namespace DL.G
open PySem PySem.Spec L2 DL
open PyProof.Rows hiding St
section
variable [Zm]
theorem comp_rng {g : D → DEnv → Option DEnv} {el : M D} {vs : List Nat} {e0 : DEnv} {st : Src} {m : Nat} (F H : Nat → D) (h : ∀ i, i < m → ∃ e1 e2, g (F i) e0 = some e1 ∧ el (e1, st) = some (H i, (e2, st)) ∧ wipeE e2 vs = e0) :
    compL g (ret true) el vs ((List.range m).map F) [] (e0, st) = some ((List.range m).map H, (e0, st)) := by
  suffices hh : ∀ (is : List Nat) (acc : List D), (∀ i ∈ is, i < m) → compL g (ret true) el vs (is.map F) acc (e0, st) = some (acc ++ is.map H, (e0, st)) by
    simpa using hh (List.range m) [] fun i hi => List.mem_range.mp hi
  intro is
  induction is with
  | nil => intro acc _; simp [compL]
  | cons i is ih =>
    intro acc hi
    obtain ⟨e1, e2, h1, h2, h3⟩ := h i (hi i List.mem_cons_self)
    rw [List.map_cons, comp_tt h1 (ev_ret true) h2, h3, ih _ fun j hj => hi j (List.mem_cons_of_mem _ hj)]
    simp
theorem for_rng {g : D → DEnv → Option DEnv} {b : M Fl} {m : Nat} (F : Nat → D) (I : Nat → S → Prop) {s : S} (h0 : I 0 s) (hs : ∀ k, k < m → ∀ s, I k s → ∃ e1 s2, g (F k) s.1 = some e1 ∧ b (e1, s.2) = some (.nx, s2) ∧ I (k + 1) s2) :
    ∃ s', forL g b ((List.range m).map F) s = some (.nx, s') ∧ I m s' := by
  obtain ⟨s', e, k, hk, hx, hi⟩ := for_inv (g := g) (b := b) (fun xs s => ∃ k, k ≤ m ∧ xs = ((List.range m).map F).drop k ∧ I k s) ((List.range m).map F) s ⟨0, Nat.zero_le _, rfl, h0⟩ fun x xs s ⟨k, hk, hx, hi⟩ => by
    have hlt : k < m := by
      apply Nat.lt_of_not_le
      intro q
      rw [List.drop_eq_nil_of_le (by simpa using q)] at hx
      cases hx
    rw [List.drop_eq_getElem_cons (by simpa using hlt)] at hx
    injection hx with hx1 hx2
    simp only [List.getElem_map, List.getElem_range] at hx1
    obtain ⟨e1, s2, a, b, c⟩ := hs k hlt s hi
    refine ⟨e1, s2, ?_, b, k + 1, hlt, hx2, c⟩
    rw [hx1]; exact a
  have : k = m := by
    have := congrArg List.length hx
    simp at this
    omega
  subst this
  exact ⟨s', e, hi⟩
theorem ev_SetI {i : Nat} {fv fk : M D} {s s1 s2 : S} {v : D} {sl : Sl} {n : Int} {ds : List D} {j : Nat} (h1 : fv s = some (v, s1)) (h2 : s1.1[i]? = some (some sl)) (h3 : fk s1 = some (.int n, s2)) (h4 : s2.1[i]? = some (some (.l ds))) (h5 : ixN ds.length n = some j) :
    cSetI i fv fk s = some (.nx, (s2.1.set i (some (.l (ds.set j v))), s2.2)) := by
  have e0 : isSl i s1 = some ((), s1) := by unfold isSl; rw [h2]
  refine (bnd_eq h1).trans ((bnd_eq e0).trans ((bnd_eq h3).trans ?_))
  have e1 : setSl (.l ds) (.int n) v = some (.l (ds.set j v)) := by
    show (match ixN ds.length n with | some j => some (Sl.l (ds.set j v)) | none => none) = _
    rw [h5]
  unfold slM
  rw [h4]
  simp only [e1, Option.map_some]
theorem fr2_of {r : D → D → Option (List D)} {f g : M Od} {s s1 s2 : S} {p q : Od} {d e : D} {zs : List D} (h1 : f s = some (p, s1)) (h2 : g s1 = some (q, s2)) (h3 : DL.rd s2.1 p = some d) (h4 : DL.rd s2.1 q = some e) (h5 : r d e = some zs) : cFr2 r f g s = some (zs, s2) := by
  rw [ev_Fr2, h1]
  simp only [Option.bind_some]
  rw [h2]
  simp only [Option.bind_some]
  rw [h3]
  simp only [Option.bind_some]
  rw [h4]
  simp only [Option.bind_some]
  rw [h5]
  rfl
theorem op2_of {r : D → D → Option D} {f g : M Od} {s s1 s2 : S} {p q : Od} {d e z : D} (h1 : f s = some (p, s1)) (h2 : g s1 = some (q, s2)) (h3 : DL.rd s2.1 p = some d) (h4 : DL.rd s2.1 q = some e) (h5 : r d e = some z) : cOp2 r f g s = some (z, s2) := by
  rw [ev_Op2, h1]
  simp only [Option.bind_some]
  rw [h2]
  simp only [Option.bind_some]
  rw [h3]
  simp only [Option.bind_some]
  rw [h4]
  simp only [Option.bind_some]
  rw [h5]
  rfl
theorem do_of {f : M D} {s s1 : S} {d : D} (h : f s = some (d, s1)) : mDo f s = some (.d d, s1) := by
  rw [ev_Do, h]; rfl
theorem cons_of {α : Type} {f : M α} {g : M (List α)} {s s1 s2 : S} {a : α} {as : List α} (h1 : f s = some (a, s1)) (h2 : g s1 = some (as, s2)) : cCons f g s = some (a :: as, s2) := by
  rw [ev_Cons, h1]
  simp only [Option.bind_some]
  rw [h2]; rfl
theorem slot_of {i : Nat} {s : S} {sl : Sl} (h : s.1[i]? = some (some sl)) : mSlot i s = some (.i i, s) := ev_Slot i sl h
theorem var_of {i : Nat} {s : S} {d : D} (h : s.1[i]? = some (some (.v d))) : mVar i s = some (d, s) := ev_Var i d h
theorem nil_of {α : Type} {s : S} : (ret [] : M (List α)) s = some ([], s) := rfl
theorem call_of {φ : Phi} {f : M (List Od)} {s s1 : S} {ps : List Od} {as : List Ar} {fl : Bool} {d : D} {st' : Src} (h1 : f s = some (ps, s1)) (h2 : resA s1.1 ps = some (as, fl)) (h3 : φ as s1.2 = some (d, st')) (h4 : (fl && !atom d) = false) : cCall φ f s = some (d, (s1.1, st')) := by
  rw [ev_Call, h1]
  simp only [Option.bind_some]
  rw [h2]
  simp only [Option.bind_some]
  rw [h3]
  simp only [Option.bind_some]
  rw [h4]
  rfl
theorem n_of {r : List D → Option D} {f : M (List Od)} {s s1 : S} {ps : List Od} {ds : List D} {z : D} (h1 : f s = some (ps, s1)) (h2 : rdAll ps s1.1 = some ds) (h3 : r ds = some z) : cN r f s = some (z, s1) := by
  rw [ev_N, h1]
  simp only [Option.bind_some]
  rw [h2]
  simp only [Option.bind_some]
  rw [h3]
  rfl
theorem frn_of {r : List D → Option (List D)} {f : M (List Od)} {s s1 : S} {ps : List Od} {ds z : List D} (h1 : f s = some (ps, s1)) (h2 : rdAll ps s1.1 = some ds) (h3 : r ds = some z) : cFrN r f s = some (z, s1) := by
  rw [ev_FrN, h1]
  simp only [Option.bind_some]
  rw [h2]
  simp only [Option.bind_some]
  rw [h3]
  rfl
theorem list_of {f : M (List D)} {s s1 : S} {ds : List D} (h : f s = some (ds, s1)) : cList f s = some (.list ds, s1) := by
  rw [ev_List, h]; rfl
theorem tup_of {f : M (List D)} {s s1 : S} {ds : List D} (h : f s = some (ds, s1)) (hl : ds.length ≤ 16777216) : cTup f s = some (.tuple ds, s1) := by
  rw [ev_Tup, h]
  simp only [Option.bind_some]
  rw [ev_short hl]; rfl
theorem set_of {i : Nat} {f : M D} {s s1 : S} {d : D} (h : f s = some (d, s1)) (hi : i < s1.1.length) : cSet i f s = some (.nx, (s1.1.set i (some (.v d)), s1.2)) := by
  rw [ev_Set, h]
  simp only [Option.bind_some]
  rw [ev_putM _ _ hi]
  rfl
theorem seq_of {f g : M Fl} {s s1 : S} {r : Fl × S} (h1 : f s = some (.nx, s1)) (h2 : g s1 = some r) : cSeq f g s = some r := by
  rw [ev_Seq, h1]
  exact h2
theorem seq_rt {f g : M Fl} {s s1 : S} {d : D} (h1 : f s = some (.rt d, s1)) : cSeq f g s = some (.rt d, s1) := by
  rw [ev_Seq, h1]
  rfl
theorem ret_of {f : M D} {s s1 : S} {d : D} (h : f s = some (d, s1)) : cRet f s = some (.rt d, s1) := by
  rw [ev_Ret, h]; rfl
theorem it_of {r : List D → Option (List D)} {f : M (List D)} {s s1 : S} {ds z : List D} (h : f s = some (ds, s1)) (h2 : r ds = some z) : cIt r f s = some (z, s1) := by
  rw [ev_It, h]
  simp only [Option.bind_some]
  rw [h2]; rfl
theorem seqI_of {f : M D} {s s1 : S} {d : D} {ds : List D} (h : f s = some (d, s1)) (h2 : seqM d s1 = some (ds, s1)) : cSeqI f s = some (ds, s1) := by
  rw [ev_SeqI, h]
  exact h2
theorem setL_of {i : Nat} {f : M (List D)} {s s1 : S} {ds : List D} (h : f s = some (ds, s1)) (hi : i < s1.1.length) : cSetL i f s = some (.nx, (s1.1.set i (some (.l ds)), s1.2)) := by
  rw [ev_SetL, h]
  simp only [Option.bind_some]
  rw [ev_putM _ _ hi]
  rfl
theorem ixN_nat {n k : Nat} (h : k < n) : ixN n (k : Int) = some k := by
  unfold ixN
  rw [if_pos (by omega), if_pos (by omega)]
  simp
theorem vec_set {m : Nat} {f : Nat → Int} {i : Nat} {a : Int} : (vec m f).set i (.int a) = vec m fun j => if j = i then a else f j := by
  refine vec_eq (by simp) fun k hk => ?_
  rw [List.getElem?_set]
  by_cases e : i = k
  · subst e; simp [hk]
  · rw [if_neg e, vec_get hk]
    rw [if_neg (fun q => e q.symm)]
theorem flat_rep (d : D) : ∀ k : Nat, (List.replicate k [d]).flatten = List.replicate k d
  | 0 => rfl
  | k + 1 => by rw [List.replicate_succ, List.flatten_cons, flat_rep d k]; rfl
theorem vec_rep {m : Nat} {a : Int} : List.replicate m (PyData.int a) = vec m fun _ => a := by
  refine vec_eq (by simp) fun k hk => ?_
  simp [hk]
theorem repL_vec {m : Nat} {a : Int} (h : m ≤ 16777216) : repL (.list [.int a]) (.int (m : Int)) = some (vec m fun _ => a) := by
  have e : repL (.list [.int a]) (.int (m : Int)) = some (List.replicate (m : Int).toNat [PyData.int a]).flatten := by
    unfold repL
    exact if_pos ⟨by omega, by omega, by rw [Int.toNat_natCast]; simpa [line] using h⟩
  rw [e, flat_rep, Int.toNat_natCast, vec_rep]
theorem repT_vec {m : Nat} {a : Int} (h : m ≤ 16777216) : mulD (.tuple [.int a]) (.int (m : Int)) = some (.tuple (vec m fun _ => a)) := by
  have e : mulD (.tuple [.int a]) (.int (m : Int)) = some (.tuple (List.replicate (m : Int).toNat [PyData.int a]).flatten) := by
    unfold mulD repT
    exact if_pos ⟨by omega, by omega, by rw [Int.toNat_natCast]; simpa [line] using h⟩
  rw [e, flat_rep, Int.toNat_natCast, vec_rep]
theorem rng1_vec {m : Nat} {s : S} (h : m ≤ 16777216) : rng1M [.int (m : Int)] s = some (vec m fun i => (i : Int), s) := by
  have e : rng1M [.int (m : Int)] s = some (rangeD 0 (m : Int).toNat, s) := by
    unfold rng1M
    exact if_pos ⟨by omega, by omega⟩
  rw [e, Int.toNat_natCast, rangeD_vec]
theorem vec_get? {m : Nat} {f : Nat → Int} {i : Nat} : (vec m f)[i]? = if i < m then some (.int (f i)) else none := by
  by_cases h : i < m
  · rw [if_pos h, vec_get h]
  · rw [if_neg h, List.getElem?_eq_none (by simp; omega)]
theorem rng_get? {α : Type} {m : Nat} {f : Nat → α} {i : Nat} : ((List.range m).map f)[i]? = if i < m then some (f i) else none := by
  by_cases h : i < m
  · rw [if_pos h]; simp [h]
  · rw [if_neg h, List.getElem?_eq_none (by simp; omega)]
theorem zip3_eq : ∀ (xs ys zs : List D), xs.length = ys.length → xs.length = zs.length → ∀ i : Nat, (zip3L xs ys zs)[i]? = (xs[i]?).bind fun x => (ys[i]?).bind fun y => (zs[i]?).map fun z => PyData.tuple [x, y, z]
  | [], [], [], _, _, i => by simp [zip3L]
  | x :: xs, y :: ys, z :: zs, h1, h2, 0 => by simp [zip3L]
  | x :: xs, y :: ys, z :: zs, h1, h2, i + 1 => by
    have := zip3_eq xs ys zs (by simpa using h1) (by simpa using h2) i
    simpa [zip3L] using this
theorem zip3_vec {m : Nat} {f g h : Nat → Int} : zip3D [.tuple (vec m f), .tuple (vec m g), .tuple (vec m h)] = some ((List.range m).map fun i => .tuple [.int (f i), .int (g i), .int (h i)]) := by
  show (if (vec m f).length = (vec m g).length ∧ (vec m f).length = (vec m h).length then some (zip3L (vec m f) (vec m g) (vec m h)) else none) = _
  rw [if_pos ⟨by simp, by simp⟩]
  refine congrArg some (List.ext_getElem? fun i => ?_)
  rw [zip3_eq _ _ _ (by simp) (by simp)]
  simp only [vec_get?, rng_get?]
  by_cases hi : i < m <;> simp [hi]
theorem zip_vec {b : Bool} {m : Nat} {f g : Nat → Int} : zipD b [.tuple (vec m f), .tuple (vec m g)] = some ((List.range m).map fun i => .tuple [.int (f i), .int (g i)]) := by
  show (if b = true ∧ (vec m f).length ≠ (vec m g).length then none else some (zipL (vec m f) (vec m g))) = _
  rw [if_neg (by simp)]
  refine congrArg some (List.ext_getElem? fun i => ?_)
  unfold zipL
  rw [List.getElem?_zipWith]
  simp only [vec_get?, rng_get?]
  by_cases hi : i < m <;> simp [hi]
theorem enum_vec {m : Nat} {f : Nat → Int} : enumD [.tuple (vec m f)] = some ((List.range m).map fun i => .tuple [.int (i : Int), .int (f i)]) := by
  show some (enumL (vec m f)) = _
  refine congrArg some (List.ext_getElem? fun i => ?_)
  unfold enumL
  rw [List.getElem?_zipWith]
  simp only [vec_get?, rng_get?]
  by_cases hi : i < m <;> simp [hi]
end
end DL.G
set_option Elab.async false
set_option linter.all false
set_option maxRecDepth 100000
set_option maxHeartbeats 4000000
/-! K46A: what the functions of k46 compute. -/
namespace DL.G
open PySem PySem.Spec L2 DL
open PyProof.Rows hiding St
structure Iv (m : Nat) (p q : Nat → Nat) : Prop where
  a : ∀ i, i < m → p i < m
  b : ∀ i, i < m → q i < m
  c : ∀ i, i < m → q (p i) = i
  d : ∀ i, i < m → p (q i) = i
theorem Iv.symm {m : Nat} {p q : Nat → Nat} (h : Iv m p q) : Iv m q p := ⟨h.b, h.a, h.d, h.c⟩
/-- a signed map -/
abbrev mp (m : Nat) (p : Nat → Nat) (s : Nat → Int) : D := .tuple [.tuple (vec m fun i => (p i : Int)), .tuple (vec m s)]
abbrev rlE (m : Nat) (p : Nat → Nat) (s r : Nat → Int) (x2 x3 x4 x5 : Option Sl) : DEnv := [some (.v (mp m p s)), some (.v (.tuple (vec m r))), x2, x3, x4, x5]
theorem row_led_1 {m : Nat} {p : Nat → Nat} {s r : Nat → Int} (hm : m ≤ 16777216) (st : Src) : cSetL 2 (cFr2 repL (mDo (cList (cLst (cCons (mC (.int 0)) (ret []))))) (mDo (cN lenN (cCons (mSlot 1) (ret []))))) (rlE m p s r none none none none, st) = some (.nx, (rlE m p s r (some (.l (vec m fun _ => 0))) none none none, st)) := by
  have e1 : mDo (cList (cLst (cCons (mC (.int 0)) (ret [])))) (rlE m p s r none none none none, st) = some (.d (.list [.int 0]), (rlE m p s r none none none none, st)) := by simp
  have e2 : mDo (cN lenN (cCons (mSlot 1) (ret []))) (rlE m p s r none none none none, st) = some (.d (.int (m : Int)), (rlE m p s r none none none none, st)) := by simp
  exact setL_of (fr2_of e1 e2 rfl rfl (repL_vec hm)) (by simp)
theorem row_led_2 {m : Nat} {p q : Nat → Nat} {s r : Nat → Int} (h : Iv m p q) (hs : ∀ i, i < m → (s i).natAbs < 4611686018427387904) {k : Nat} (hk : k < m) (st : Src) (ds : List D) (hd : ds.length = m) :
    row_led_b1 (rlE m p s r (some (.l ds)) (some (.v (.int (p k : Int)))) (some (.v (.int (s k)))) (some (.v (.int (r k)))), st) = some (.nx, (rlE m p s r (some (.l (ds.set (p k) (.int (s k * r k))))) (some (.v (.int (p k : Int)))) (some (.v (.int (s k)))) (some (.v (.int (r k)))), st)) := by
  have e1 : cOp2 mulD (mSlot 4) (mSlot 5) (rlE m p s r (some (.l ds)) (some (.v (.int (p k : Int)))) (some (.v (.int (s k)))) (some (.v (.int (r k)))), st) = some (.int (s k * r k), (rlE m p s r (some (.l ds)) (some (.v (.int (p k : Int)))) (some (.v (.int (s k)))) (some (.v (.int (r k)))), st)) := by
    simp [ev_mulL (hs k hk)]
  unfold row_led_b1
  rw [ev_Seq, ev_SetI (i := 2) (n := (p k : Int)) (j := p k) (ds := ds) (sl := .l ds) e1 rfl (by simp; rfl) rfl (by rw [hd]; exact ixN_nat (h.a k hk))]
  rfl
theorem row_led_3 {m : Nat} {p q : Nat → Nat} {s r : Nat → Int} (h : Iv m p q) {k : Nat} (hk : k < m) : (vec m fun j => if q j < k then s (q j) * r (q j) else 0).set (p k) (.int (s k * r k)) = vec m fun j => if q j < k + 1 then s (q j) * r (q j) else 0 := by
  rw [vec_set]
  refine vec_congr fun j hj => ?_
  by_cases hj2 : j = p k
  · rw [if_pos hj2, hj2, h.c k hk, if_pos (by omega)]
  · rw [if_neg hj2]
    have : q j ≠ k := fun e => hj2 (by rw [← e, h.d j hj])
    by_cases h3 : q j < k
    · rw [if_pos h3, if_pos (by omega)]
    · rw [if_neg h3, if_neg (by omega)]
theorem row_led_4 {m : Nat} {p : Nat → Nat} {s r : Nat → Int} {x2 x3 x4 x5 : Option Sl} (st : Src) : cIt zip3D (cCons (cOp2 ixD (mSlot 0) (mDo (mC (.int 0)))) (cCons (cOp2 ixD (mSlot 0) (mDo (mC (.int 1)))) (cCons (mVar 1) (ret [])))) (rlE m p s r x2 x3 x4 x5, st) = some ((List.range m).map fun i => .tuple [.int (p i : Int), .int (s i), .int (r i)], (rlE m p s r x2 x3 x4 x5, st)) := by
  simp [ixD, atI, ixN, zip3_vec]
theorem row_led_spec {m : Nat} {p q : Nat → Nat} {s r : Nat → Int} (h : Iv m p q) (hm : m ≤ 16777216) (hs : ∀ i, i < m → (s i).natAbs < 4611686018427387904) (st : Src) :
    phi_row_led [.d (mp m p s), .d (.tuple (vec m r))] st = some (.tuple (vec m fun j => s (q j) * r (q j)), st) := by
  obtain ⟨s', e, x3, x4, x5, hx⟩ := for_rng (g := gTupD 3 (gConss (gSet 3) (gConss (gSet 4) (gConss (gSet 5) gNils)))) (b := row_led_b1) (m := m) (fun i => .tuple [.int (p i : Int), .int (s i), .int (r i)])
      (fun k t => ∃ x3 x4 x5 : Option Sl, t = (rlE m p s r (some (.l (vec m fun j => if q j < k then s (q j) * r (q j) else 0))) x3 x4 x5, st))
      (s := (rlE m p s r (some (.l (vec m fun _ => 0))) none none none, st)) ⟨none, none, none, by simp⟩
      (by
        rintro k hk _ ⟨x3, x4, x5, rfl⟩
        refine ⟨_, _, rfl, row_led_2 h hs hk st _ (vec_len m _), some (.v (.int (p k : Int))), some (.v (.int (s k))), some (.v (.int (r k))), ?_⟩
        rw [row_led_3 h hk])
  rw [vec_congr fun j hj => if_pos (h.b j hj)] at hx
  rw [hx] at e
  refine phi_of (s' := (rlE m p s r (some (.l (vec m fun j => s (q j) * r (q j)))) x3 x4 x5, st)) ?_
  show g_row_led (rlE m p s r none none none none, st) = _
  unfold g_row_led
  rw [ev_Seq, row_led_1 hm]
  simp only [Option.bind_some, ev_seq_nx]
  rw [ev_Seq, ev_For, row_led_4]
  simp only [Option.bind_some]
  rw [e]
  simp
/-! ### _law_led -/
abbrev llE (m : Nat) (p : Nat → Nat) (s r : Nat → Int) (x2 x3 x4 : Option Sl) : DEnv := [some (.v (mp m p s)), some (.v (.tuple (vec m r))), x2, x3, x4]
theorem law_led_1 {m : Nat} {p : Nat → Nat} {s r : Nat → Int} (hm : m ≤ 16777216) (st : Src) : cSetL 2 (cFr2 repL (mDo (cList (cLst (cCons (mC (.int 0)) (ret []))))) (mDo (cN lenN (cCons (mSlot 1) (ret []))))) (llE m p s r none none none, st) = some (.nx, (llE m p s r (some (.l (vec m fun _ => 0))) none none, st)) := by
  have e1 : mDo (cList (cLst (cCons (mC (.int 0)) (ret [])))) (llE m p s r none none none, st) = some (.d (.list [.int 0]), (llE m p s r none none none, st)) := by simp
  have e2 : mDo (cN lenN (cCons (mSlot 1) (ret []))) (llE m p s r none none none, st) = some (.d (.int (m : Int)), (llE m p s r none none none, st)) := by simp
  exact setL_of (fr2_of e1 e2 rfl rfl (repL_vec hm)) (by simp)
@[simp] theorem ix_l0 (d : D) (ds : List D) : ixD (.list (d :: ds)) (.int 0) = some d := by simp [ixD, atI, ixN]
@[simp] theorem ix_t0 (d : D) (ds : List D) : ixD (.tuple (d :: ds)) (.int 0) = some d := by simp [ixD, atI, ixN]
@[simp] theorem ix_t1 (d e : D) (ds : List D) : ixD (.tuple (d :: e :: ds)) (.int 1) = some e := by
  show atI (d :: e :: ds) 1 = some e
  unfold atI ixN
  rw [if_pos (by decide), if_pos (by simp; omega)]
  rfl
theorem ix_tv {m : Nat} {f : Nat → Int} {i : Nat} (h : i < m) : ixD (.tuple (vec m f)) (.int (i : Int)) = some (.int (f i)) := ix_vec h
theorem law_led_2 {m : Nat} {p q : Nat → Nat} {s r : Nat → Int} (h : Iv m p q) (hs : ∀ i, i < m → (s i).natAbs < 4611686018427387904) {k : Nat} (hk : k < m) (st : Src) (ds : List D) (hd : ds.length = m) :
    law_led_b1 (llE m p s r (some (.l ds)) (some (.v (.int (k : Int)))) (some (.v (.int (r k)))), st) = some (.nx, (llE m p s r (some (.l (ds.set (p k) (.int (s k * r k))))) (some (.v (.int (k : Int)))) (some (.v (.int (r k)))), st)) := by
  have e1 : cOp2 mulD (mDo (cOp2 ixD (mDo (cOp2 ixD (mSlot 0) (mDo (mC (.int 1))))) (mSlot 3))) (mSlot 4) (llE m p s r (some (.l ds)) (some (.v (.int (k : Int)))) (some (.v (.int (r k)))), st) = some (.int (s k * r k), (llE m p s r (some (.l ds)) (some (.v (.int (k : Int)))) (some (.v (.int (r k)))), st)) := by
    simp [ix_tv hk, ev_mulL (hs k hk)]
  have e2 : cOp2 ixD (mDo (cOp2 ixD (mSlot 0) (mDo (mC (.int 0))))) (mSlot 3) (llE m p s r (some (.l ds)) (some (.v (.int (k : Int)))) (some (.v (.int (r k)))), st) = some (.int (p k : Int), (llE m p s r (some (.l ds)) (some (.v (.int (k : Int)))) (some (.v (.int (r k)))), st)) := by
    simp [ix_tv hk]
  unfold law_led_b1
  rw [ev_Seq, ev_SetI (i := 2) (n := (p k : Int)) (j := p k) (ds := ds) (sl := .l ds) e1 rfl e2 rfl (by rw [hd]; exact ixN_nat (h.a k hk))]
  rfl
theorem law_led_4 {m : Nat} {p : Nat → Nat} {s r : Nat → Int} {x2 x3 x4 : Option Sl} (st : Src) : cIt enumD (cCons (mVar 1) (ret [])) (llE m p s r x2 x3 x4, st) = some ((List.range m).map fun i => .tuple [.int (i : Int), .int (r i)], (llE m p s r x2 x3 x4, st)) := by
  simp [enum_vec]
theorem law_led_spec {m : Nat} {p q : Nat → Nat} {s r : Nat → Int} (h : Iv m p q) (hm : m ≤ 16777216) (hs : ∀ i, i < m → (s i).natAbs < 4611686018427387904) (st : Src) :
    phi_law_led [.d (mp m p s), .d (.tuple (vec m r))] st = some (.tuple (vec m fun j => s (q j) * r (q j)), st) := by
  obtain ⟨s', e, x3, x4, hx⟩ := for_rng (g := gTupD 2 (gConss (gSet 3) (gConss (gSet 4) gNils))) (b := law_led_b1) (m := m) (fun i => .tuple [.int (i : Int), .int (r i)])
      (fun k t => ∃ x3 x4 : Option Sl, t = (llE m p s r (some (.l (vec m fun j => if q j < k then s (q j) * r (q j) else 0))) x3 x4, st))
      (s := (llE m p s r (some (.l (vec m fun _ => 0))) none none, st)) ⟨none, none, by simp⟩
      (by
        rintro k hk _ ⟨x3, x4, rfl⟩
        refine ⟨_, _, rfl, law_led_2 h hs hk st _ (vec_len m _), some (.v (.int (k : Int))), some (.v (.int (r k))), ?_⟩
        rw [row_led_3 h hk])
  rw [vec_congr fun j hj => if_pos (h.b j hj)] at hx
  rw [hx] at e
  refine phi_of (s' := (llE m p s r (some (.l (vec m fun j => s (q j) * r (q j)))) x3 x4, st)) ?_
  show g_law_led (llE m p s r none none none, st) = _
  unfold g_law_led
  rw [ev_Seq, law_led_1 hm]
  simp only [Option.bind_some, ev_seq_nx]
  rw [ev_Seq, ev_For, law_led_4]
  simp only [Option.bind_some]
  rw [e]
  simp
/-! ### map_back, maps_followed -/
theorem met_of {r : D → List D → Option D} {o : M Od} {f : M (List Od)} {s s1 s2 : S} {p : Od} {ps : List Od} {d1 d z : D} {ds : List D} (h1 : o s = some (p, s1)) (h2 : DL.rd s1.1 p = some d1) (h3 : f s1 = some (ps, s2)) (h4 : DL.rd s2.1 p = some d) (h5 : rdAll ps s2.1 = some ds) (h6 : recv d1 = true) (h7 : rM r (tyD d1) d ds = some z) : cMet r o f s = some (z, s2) := by
  have a1 : rdM p s1 = some (d1, s1) := by rw [ev_rdM, h2]; rfl
  have a2 : rdM p s2 = some (d, s2) := by rw [ev_rdM, h4]; rfl
  have a3 : rdsM ps s2 = some (ds, s2) := by rw [ev_rdsM, h5]; rfl
  refine (bnd_eq h1).trans ((bnd_eq a1).trans ((bnd_eq h3).trans ((bnd_eq a2).trans ((bnd_eq a3).trans ?_))))
  rw [if_pos h6, h7]
  rfl
theorem eqv_int (i j : Int) : PyData.eqv (.int i) (.int j) = decide (i = j) := by
  simp only [PyData.eqv]
  rw [Bool.eq_iff_iff, beq_iff_eq, decide_eq_true_eq]
theorem vec_shp (m : Nat) (f : Nat → Int) : shp (.list (vec m f)) = true ∧ shp (.tuple (vec m f)) = true := shp_of fun d hd => by
  obtain ⟨i, _, rfl⟩ := vec_mem hd
  exact ⟨rfl, by rw [PyData.depth]; omega⟩
theorem place_vec {m : Nat} {p q : Nat → Nat} (h : Iv m p q) {j : Nat} (hj : j < m) : SeqAt.dataPlace (vec m fun i => (p i : Int)) (.int (j : Int)) = some (q j) := by
  unfold SeqAt.dataPlace
  rw [List.findIdx?_eq_some_iff_getElem]
  refine ⟨by rw [vec_len]; exact h.b j hj, ?_, fun k hk => ?_⟩
  · simp only [vec, List.getElem_map, List.getElem_range]
    rw [eqv_int, h.d j hj]; simp
  · simp only [vec, List.getElem_map, List.getElem_range]
    rw [eqv_int]
    have : k < m := Nat.lt_trans hk (h.b j hj)
    intro e
    have e : (p k : Int) = (j : Int) := by simpa using e
    have e : p k = j := by omega
    rw [← e, h.c k this] at hk
    omega
theorem idx_vec {m : Nat} {p q : Nat → Nat} (h : Iv m p q) {j : Nat} (hj : j < m) : idxN (.tuple (vec m fun i => (p i : Int))) [.int (j : Int)] = some (.int (q j : Int)) := by
  have hs : shp (.int (j : Int)) = true := by
    unfold shp; rw [PyData.plain, PyData.depth]; rfl
  show (if (recv (.tuple (vec m fun i => (p i : Int))) && shp (.tuple (vec m fun i => (p i : Int))) && shp (.int (j : Int))) = true then (SeqAt.dataPlace (vec m fun i => (p i : Int)) (.int (j : Int))).map fun (j : Nat) => PyData.int (j : Nat) else none) = _
  rw [(vec_shp m _).2, hs, if_pos (by rfl), place_vec h hj]
  rfl
theorem map_back_1 {m : Nat} {p q : Nat → Nat} {s : Nat → Int} {x1 : Option Sl} (h : Iv m p q) {j : Nat} (hj : j < m) (st : Src) : map_back_e1 ([some (.v (mp m p s)), x1, some (.v (.int (j : Int)))], st) = some (.int (q j : Int), ([some (.v (mp m p s)), x1, some (.v (.int (j : Int)))], st)) :=
  met_of (s1 := ([some (.v (mp m p s)), x1, some (.v (.int (j : Int)))], st)) (p := .d (.tuple (vec m fun i => (p i : Int)))) (d1 := .tuple (vec m fun i => (p i : Int))) (d := .tuple (vec m fun i => (p i : Int))) (ps := [.i 2]) (ds := [.int (j : Int)]) (by simp) rfl (by simp) rfl rfl rfl (by
    show (if "tuple" = "tuple" then idxN (.tuple (vec m fun i => (p i : Int))) [.int (j : Int)] else none) = _
    rw [if_pos rfl, idx_vec h hj])
abbrev mbE (m : Nat) (p : Nat → Nat) (s : Nat → Int) (x1 x2 : Option Sl) : DEnv := [some (.v (mp m p s)), x1, x2]
theorem map_back_2 {m : Nat} {p q : Nat → Nat} {s : Nat → Int} (h : Iv m p q) (hm : m ≤ 16777216) (st : Src) :
    cLc (bnd (cCons (mVar 1) (ret [])) rng1M) (gSet 2) (ret true) map_back_e1 [2] (mbE m p s (some (.v (.int (m : Int)))) none, st) = some (vec m fun j => (q j : Int), (mbE m p s (some (.v (.int (m : Int)))) none, st)) := by
  have e1 : bnd (cCons (mVar 1) (ret [])) rng1M (mbE m p s (some (.v (.int (m : Int)))) none, st) = some (vec m fun i => (i : Int), (mbE m p s (some (.v (.int (m : Int)))) none, st)) :=
    (bnd_eq (show cCons (mVar 1) (ret []) (mbE m p s (some (.v (.int (m : Int)))) none, st) = some ([.int (m : Int)], (mbE m p s (some (.v (.int (m : Int)))) none, st)) by simp)).trans (rng1_vec hm)
  refine ev_Lc _ _ _ _ _ _ _ e1 (by rw [vec_len]; exact hm) _ (mbE m p s (some (.v (.int (m : Int)))) none) st (comp_rng _ (fun j => .int (q j : Int)) fun j hj => ⟨_, _, rfl, map_back_1 h hj st, rfl⟩)
theorem map_back_spec {m : Nat} {p q : Nat → Nat} {s : Nat → Int} (h : Iv m p q) (hm : m ≤ 16777216) (hs : ∀ i, i < m → (s i).natAbs < 4611686018427387904) (st : Src) :
    phi_map_back [.d (mp m p s)] st = some (mp m q fun j => s (q j), st) := by
  refine phi_of (s' := (mbE m p s (some (.v (.int (m : Int)))) none, st)) ?_
  show g_map_back (mbE m p s none none, st) = _
  have c1 : cN lenN (cCons (mDo (cOp2 ixD (mSlot 0) (mDo (mC (.int 0))))) (ret [])) (mbE m p s none none, st) = some (.int (m : Int), (mbE m p s none none, st)) := by simp
  have c4 := row_led_spec (r := fun _ => 1) h hm hs st
  simp only [Int.mul_one] at c4
  exact seq_of (set_of c1 (by simp)) (seq_rt (ret_of (tup_of (cons_of (n_of (cons_of (do_of (list_of (map_back_2 h hm st))) nil_of) rfl rfl) (cons_of (call_of (cons_of (slot_of rfl) (cons_of (do_of (op2_of (do_of (tup_of (cons_of rfl nil_of) (by simp))) (slot_of rfl) rfl rfl (repT_vec hm))) nil_of)) rfl c4 rfl) nil_of)) (by simp))))
abbrev mfE (m : Nat) (p : Nat → Nat) (s : Nat → Int) (p2 : Nat → Nat) (s2 : Nat → Int) (x2 x3 x4 : Option Sl) : DEnv := [some (.v (mp m p s)), some (.v (mp m p2 s2)), x2, x3, x4]
theorem mf_1 {m : Nat} {p q p2 : Nat → Nat} {s s2 : Nat → Int} {x2 : Option Sl} (h : Iv m p q) (hs : ∀ i, i < m → (s i).natAbs < 4611686018427387904) {i : Nat} (hi : i < m) (st : Src) :
    maps_followed_e1 (mfE m p s p2 s2 x2 (some (.v (.int (p i : Int)))) (some (.v (.int (s i)))), st) = some (.int (s i * s2 (p i)), (mfE m p s p2 s2 x2 (some (.v (.int (p i : Int)))) (some (.v (.int (s i)))), st)) :=
  op2_of (slot_of rfl) (do_of (op2_of (do_of (op2_of (slot_of rfl) (do_of rfl) rfl rfl (ix_t1 _ _ _))) (slot_of rfl) rfl rfl (ix_tv (h.a i hi)))) rfl rfl (ev_mulL (hs i hi))
theorem mf_2 {m : Nat} {p q p2 : Nat → Nat} {s s2 : Nat → Int} {x2 x4 : Option Sl} (h : Iv m p q) {i : Nat} (hi : i < m) (st : Src) :
    maps_followed_e2 (mfE m p s p2 s2 x2 (some (.v (.int (p i : Int)))) x4, st) = some (.int (p2 (p i) : Int), (mfE m p s p2 s2 x2 (some (.v (.int (p i : Int)))) x4, st)) :=
  op2_of (do_of (op2_of (slot_of rfl) (do_of rfl) rfl rfl (ix_t0 _ _))) (slot_of rfl) rfl rfl (ix_tv (f := fun j => (p2 j : Int)) (h.a i hi))
theorem maps_followed_spec {m : Nat} {p q p2 : Nat → Nat} {s s2 : Nat → Int} (h : Iv m p q) (hm : m ≤ 16777216) (hs : ∀ i, i < m → (s i).natAbs < 4611686018427387904) (st : Src) :
    phi_maps_followed [.d (mp m p s), .d (mp m p2 s2)] st = some (mp m (fun i => p2 (p i)) fun i => s i * s2 (p i), st) := by
  refine phi_of (s' := (mfE m p s p2 s2 (some (.v (.list (vec m fun i => s i * s2 (p i))))) none none, st)) ?_
  show g_maps_followed (mfE m p s p2 s2 none none none, st) = _
  have i1 : cIt (zipD true) (cCons (cOp2 ixD (mSlot 0) (mDo (mC (.int 0)))) (cCons (cOp2 ixD (mSlot 0) (mDo (mC (.int 1)))) (ret []))) (mfE m p s p2 s2 none none none, st) = some ((List.range m).map fun i => .tuple [.int (p i : Int), .int (s i)], (mfE m p s p2 s2 none none none, st)) :=
    it_of (cons_of (op2_of (slot_of rfl) (do_of rfl) rfl rfl (ix_t0 _ _)) (cons_of (op2_of (slot_of rfl) (do_of rfl) rfl rfl (ix_t1 _ _ _)) nil_of)) zip_vec
  have c1 := ev_Lc (g := gTupD 2 (gConss (gSet 3) (gConss (gSet 4) gNils))) (t := ret true) (el := maps_followed_e1) (vs := [3, 4]) _ _ _ i1 (by simpa using hm) (vec m fun i => s i * s2 (p i)) (mfE m p s p2 s2 none none none) st (comp_rng _ (fun i => .int (s i * s2 (p i))) fun i hi => ⟨_, _, rfl, mf_1 h hs hi st, rfl⟩)
  have i2 : cSeqI (cOp2 ixD (mSlot 0) (mDo (mC (.int 0)))) (mfE m p s p2 s2 (some (.v (.list (vec m fun i => s i * s2 (p i))))) none none, st) = some (vec m fun i => (p i : Int), (mfE m p s p2 s2 (some (.v (.list (vec m fun i => s i * s2 (p i))))) none none, st)) :=
    seqI_of (op2_of (slot_of rfl) (do_of rfl) rfl rfl (ix_t0 _ _)) rfl
  have c2 := ev_Lc (g := gSet 3) (t := ret true) (el := maps_followed_e2) (vs := [3]) _ _ _ i2 (by simpa using hm) (vec m fun i => (p2 (p i) : Int)) (mfE m p s p2 s2 (some (.v (.list (vec m fun i => s i * s2 (p i))))) none none) st (comp_rng _ (fun i => .int (p2 (p i) : Int)) fun i hi => ⟨_, _, rfl, mf_2 h hi st, rfl⟩)
  exact seq_of (set_of (list_of c1) (by simp [restE])) (seq_rt (ret_of (tup_of (cons_of (n_of (cons_of (do_of (list_of c2)) nil_of) rfl rfl) (cons_of (n_of (cons_of (slot_of rfl) nil_of) rfl rfl) nil_of)) (by simp))))
/-! ### is_signed_map, _law_is_signed -/
def whole : D → Bool
  | .int _ => true
  | _ => false
def intB : D → Bool
  | .int _ => true
  | .bool _ => true
  | _ => false
def boolB : D → Bool
  | .bool _ => true
  | _ => false
def tupB : D → Bool
  | .tuple _ => true
  | _ => false
theorem isd_int (v : D) : isD "int" v = some (intB v) := by
  cases v with
  | none => exact (by decide +kernel : kitB "NoneType" "int" = some false)
  | bool _ => exact (by decide +kernel : kitB "bool" "int" = some true)
  | int _ => exact (by decide +kernel : kitB "int" "int" = some true)
  | str _ => exact (by decide +kernel : kitB "str" "int" = some false)
  | list _ => exact (by decide +kernel : kitB "list" "int" = some false)
  | tuple _ => exact (by decide +kernel : kitB "tuple" "int" = some false)
  | dict _ => exact (by decide +kernel : kitB "dict" "int" = some false)
theorem isd_bool (v : D) : isD "bool" v = some (boolB v) := by
  cases v with
  | none => exact (by decide +kernel : kitB "NoneType" "bool" = some false)
  | bool _ => exact (by decide +kernel : kitB "bool" "bool" = some true)
  | int _ => exact (by decide +kernel : kitB "int" "bool" = some false)
  | str _ => exact (by decide +kernel : kitB "str" "bool" = some false)
  | list _ => exact (by decide +kernel : kitB "list" "bool" = some false)
  | tuple _ => exact (by decide +kernel : kitB "tuple" "bool" = some false)
  | dict _ => exact (by decide +kernel : kitB "dict" "bool" = some false)
theorem isd_tup (v : D) : isD "tuple" v = some (tupB v) := by
  cases v with
  | none => exact (by decide +kernel : kitB "NoneType" "tuple" = some false)
  | bool _ => exact (by decide +kernel : kitB "bool" "tuple" = some false)
  | int _ => exact (by decide +kernel : kitB "int" "tuple" = some false)
  | str _ => exact (by decide +kernel : kitB "str" "tuple" = some false)
  | list _ => exact (by decide +kernel : kitB "list" "tuple" = some false)
  | tuple _ => exact (by decide +kernel : kitB "tuple" "tuple" = some true)
  | dict _ => exact (by decide +kernel : kitB "dict" "tuple" = some false)
theorem isi_of {T : String} {f : M Od} {s s1 : S} {p : Od} {d : D} {b : Bool} (h1 : f s = some (p, s1)) (h2 : DL.rd s1.1 p = some d) (h3 : isD T d = some b) : cIsi T f s = some (.bool b, s1) := by
  have a1 : rdM p s1 = some (d, s1) := by rw [ev_rdM, h2]; rfl
  have a2 : lft (isD T d) s1 = some (b, s1) := by rw [ev_lft, h3]; rfl
  exact (bnd_eq h1).trans ((bnd_eq a1).trans (bnd_eq a2))
theorem andV_t {f g : M D} {s s1 : S} {r : D × S} (h1 : f s = some (.bool true, s1)) (h2 : g s1 = some r) : cAndV f g s = some r := by
  rw [ev_AndV, h1]
  simp only [Option.bind_some]
  rw [ev_bol]
  exact h2
theorem andV_f {f g : M D} {s s1 : S} (h1 : f s = some (.bool false, s1)) : cAndV f g s = some (.bool false, s1) := by
  rw [ev_AndV, h1]
  simp only [Option.bind_some]
  rw [ev_bol]
  rfl
theorem notV_of {f : M D} {s s1 : S} {b : Bool} (h1 : f s = some (.bool b, s1)) : cNotV f s = some (.bool (!b), s1) := by
  rw [ev_NotV, h1]
  simp only [Option.bind_some]
  rw [ev_bol]
  rfl
theorem whole_run {n : Nat} {v : D} {st : Src} : cSeq (cRet (cAndV (cIsi "int" (mSlot 0)) (cNotV (cIsi "bool" (mSlot 0))))) skp ([some (.v v)], st) = some (.rt (.bool (whole v)), ([some (.v v)], st)) := by
  have a := isi_of (T := "int") (f := mSlot 0) (s := ([some (.v v)], st)) (slot_of rfl) rfl (isd_int v)
  have b := isi_of (T := "bool") (f := mSlot 0) (s := ([some (.v v)], st)) (slot_of rfl) rfl (isd_bool v)
  refine seq_rt (ret_of ?_)
  cases v with
  | int i => exact andV_t a (notV_of b)
  | bool i => exact andV_t a (notV_of b)
  | none => exact andV_f a
  | str _ => exact andV_f a
  | list _ => exact andV_f a
  | tuple _ => exact andV_f a
  | dict _ => exact andV_f a
theorem is_whole_spec (v : D) (st : Src) : phi_is_whole [.d v] st = some (.bool (whole v), st) := phi_of (g := g_is_whole) (as := [.d v]) (n := 1) (whole_run (n := 0))
theorem law_whole_spec (v : D) (st : Src) : phi_law_whole [.d v] st = some (.bool (whole v), st) := phi_of (g := g_law_whole) (as := [.d v]) (n := 1) (whole_run (n := 0))
end DL.G
set_option Elab.async false
set_option linter.all false
set_option maxRecDepth 100000
set_option maxHeartbeats 4000000
/-! DL24: what is to hold behind a step (backwards, step by step). -/
namespace DL.G
open PySem PySem.Spec L2 DL
open PyProof.Rows hiding St
section
variable [Zm] {α β : Type}
@[irreducible] def wp (f : M α) (e : DEnv) (st : Src) (Q : α → DEnv → Src → Prop) : Prop := ∃ a e' st', f (e, st) = some (a, (e', st')) ∧ Q a e' st'
@[irreducible] def wl (o : Option α) (Q : α → Prop) : Prop := ∃ a, o = some a ∧ Q a
@[irreducible] def wrd (e : DEnv) (p : Od) (Q : D → Prop) : Prop := ∃ d, DL.rd e p = some d ∧ Q d
@[irreducible] def wrs (e : DEnv) (ps : List Od) (Q : List D → Prop) : Prop := ∃ ds, rdAll ps e = some ds ∧ Q ds
@[irreducible] def wset (e : DEnv) (i : Nat) (x : Option Sl) (Q : DEnv → Prop) : Prop := i < e.length ∧ Q (e.set i x)
@[irreducible] def wres (e : DEnv) (ps : List Od) (Q : List Ar → Bool → Prop) : Prop := ∃ as fl, resA e ps = some (as, fl) ∧ Q as fl
@[irreducible] def wφ (φ : Phi) (as : List Ar) (st : Src) (Q : D → Src → Prop) : Prop := ∃ d st', φ as st = some (d, st') ∧ Q d st'
variable {e e1 e2 : DEnv} {st st1 : Src} {Q : α → DEnv → Src → Prop}
theorem wp_iff {f : M α} : wp f e st Q ↔ ∃ a e' st', f (e, st) = some (a, (e', st')) ∧ Q a e' st' := by unfold wp; exact Iff.rfl
theorem wl_iff {o : Option α} {Q : α → Prop} : wl o Q ↔ ∃ a, o = some a ∧ Q a := by unfold wl; exact Iff.rfl
theorem wφ_iff {φ : Phi} {as : List Ar} {Q : D → Src → Prop} : wφ φ as st Q ↔ ∃ d st', φ as st = some (d, st') ∧ Q d st' := by unfold wφ; exact Iff.rfl
theorem wp_of {f : M α} {a : α} (h : f (e, st) = some (a, (e1, st1))) (q : Q a e1 st1) : wp f e st Q := wp_iff.mpr ⟨a, e1, st1, h, q⟩
theorem wl_of {o : Option α} {a : α} {Q : α → Prop} (h : o = some a) (q : Q a) : wl o Q := wl_iff.mpr ⟨a, h, q⟩
theorem wφ_of {φ : Phi} {as : List Ar} {d : D} {Q : D → Src → Prop} (h : φ as st = some (d, st1)) (q : Q d st1) : wφ φ as st Q := wφ_iff.mpr ⟨d, st1, h, q⟩
theorem wp_mono {f : M α} {R : α → DEnv → Src → Prop} (h : wp f e st R) (q : ∀ a e1 st1, R a e1 st1 → Q a e1 st1) : wp f e st Q := by
  obtain ⟨a, e1, st1, x, y⟩ := wp_iff.mp h
  exact wp_of x (q _ _ _ y)
theorem wφ_mono {φ : Phi} {as : List Ar} {Q R : D → Src → Prop} (h : wφ φ as st R) (q : ∀ a st1, R a st1 → Q a st1) : wφ φ as st Q := by
  obtain ⟨a, st1, x, y⟩ := wφ_iff.mp h
  exact wφ_of x (q _ _ y)
theorem wl_mono {o : Option α} {Q R : α → Prop} (h : wl o R) (q : ∀ a, R a → Q a) : wl o Q := by
  obtain ⟨a, x, y⟩ := wl_iff.mp h
  exact wl_of x (q _ y)
theorem wp_ret {a : α} (q : Q a e st) : wp (ret a) e st Q := wp_of rfl q
theorem wp_bnd {f : M β} {k : β → M α} (h : wp f e st fun b e1 st1 => wp (k b) e1 st1 Q) : wp (bnd f k) e st Q := by
  obtain ⟨b, e1, st1, h1, h2⟩ := wp_iff.mp h
  obtain ⟨a, e2, st2, h3, h4⟩ := wp_iff.mp h2
  exact wp_of ((bnd_eq h1).trans h3) h4
theorem wp_lft {o : Option α} (h : wl o fun a => Q a e st) : wp (lft o) e st Q := by
  obtain ⟨a, h1, h2⟩ := wl_iff.mp h
  exact wp_of (by unfold lft; rw [h1]) h2
theorem wp_C {d : D} {Q : D → DEnv → Src → Prop} (q : Q d e st) : wp (mC d) e st Q := wp_of rfl q
theorem wp_Do {f : M D} {Q : Od → DEnv → Src → Prop} (h : wp f e st fun d e1 st1 => Q (.d d) e1 st1) : wp (mDo f) e st Q := by
  unfold mDo
  exact wp_bnd (wp_mono h fun _ _ _ q => wp_ret q)
theorem wp_Var {i : Nat} {d : D} {Q : D → DEnv → Src → Prop} (h : e[i]? = some (some (.v d))) (q : Q d e st) : wp (mVar i) e st Q := wp_of (ev_Var i d h) q
theorem wp_Slot {i : Nat} {sl : Sl} {Q : Od → DEnv → Src → Prop} (h : e[i]? = some (some sl)) (q : Q (.i i) e st) : wp (mSlot i) e st Q := wp_of (ev_Slot i sl h) q
theorem wrd_d {d : D} {Q : D → Prop} (q : Q d) : wrd e (.d d) Q := by unfold wrd; exact ⟨d, rfl, q⟩
theorem wrd_v {i : Nat} {d : D} {Q : D → Prop} (h : e[i]? = some (some (.v d))) (q : Q d) : wrd e (.i i) Q := by
  unfold wrd; exact ⟨d, by rw [ev_rd_i, h]; rfl, q⟩
theorem wrd_l {i : Nat} {ds : List D} {Q : D → Prop} (h : e[i]? = some (some (.l ds))) (q : Q (.list ds)) : wrd e (.i i) Q := by
  unfold wrd; exact ⟨_, by rw [ev_rd_i, h]; rfl, q⟩
theorem wrd_k {i : Nat} {kds : List (Key × D)} {Q : D → Prop} (h : e[i]? = some (some (.k kds))) (q : Q (.dict (kds.map fun p => (encK p.1, p.2)))) : wrd e (.i i) Q := by
  unfold wrd; exact ⟨_, by rw [ev_rd_i, h]; rfl, q⟩
theorem wrs_nil {Q : List D → Prop} (q : Q []) : wrs e [] Q := by unfold wrs; exact ⟨[], rfl, q⟩
theorem wrs_cons {p : Od} {ps : List Od} {Q : List D → Prop} (h : wrd e p fun d => wrs e ps fun ds => Q (d :: ds)) : wrs e (p :: ps) Q := by
  unfold wrd wrs at h
  obtain ⟨d, h1, ds, h2, q⟩ := h
  unfold wrs
  exact ⟨d :: ds, by rw [ev_rdAll1, h1]; simp [h2], q⟩
theorem wp_rdM {p : Od} {Q : D → DEnv → Src → Prop} (h : wrd e p fun d => Q d e st) : wp (rdM p) e st Q := by
  unfold wrd at h
  obtain ⟨d, h1, q⟩ := h
  exact wp_of (by rw [ev_rdM, h1]; rfl) q
theorem wp_rdsM {ps : List Od} {Q : List D → DEnv → Src → Prop} (h : wrs e ps fun ds => Q ds e st) : wp (rdsM ps) e st Q := by
  unfold wrs at h
  obtain ⟨ds, h1, q⟩ := h
  exact wp_of (by rw [ev_rdsM, h1]; rfl) q
theorem wp_Op2 {r : D → D → Option D} {f g : M Od} {Q : D → DEnv → Src → Prop} (h : wp f e st fun p e1 st1 => wp g e1 st1 fun q e2 st2 => wrd e2 p fun d => wrd e2 q fun d' => wl (r d d') fun z => Q z e2 st2) : wp (cOp2 r f g) e st Q := by
  unfold cOp2
  refine wp_bnd (wp_mono h fun p e1 st1 h => wp_bnd (wp_mono h fun q e2 st2 h => wp_bnd (wp_rdM ?_)))
  unfold wrd at h ⊢
  obtain ⟨d, h1, d', h2, h3⟩ := h
  refine ⟨d, h1, wp_bnd (wp_rdM ?_)⟩
  unfold wrd
  exact ⟨d', h2, wp_lft h3⟩
theorem wp_Fr2 {r : D → D → Option (List D)} {f g : M Od} {Q : List D → DEnv → Src → Prop} (h : wp f e st fun p e1 st1 => wp g e1 st1 fun q e2 st2 => wrd e2 p fun d => wrd e2 q fun d' => wl (r d d') fun z => Q z e2 st2) : wp (cFr2 r f g) e st Q := by
  unfold cFr2
  refine wp_bnd (wp_mono h fun p e1 st1 h => wp_bnd (wp_mono h fun q e2 st2 h => wp_bnd (wp_rdM ?_)))
  unfold wrd at h ⊢
  obtain ⟨d, h1, d', h2, h3⟩ := h
  refine ⟨d, h1, wp_bnd (wp_rdM ?_)⟩
  unfold wrd
  exact ⟨d', h2, wp_lft h3⟩
theorem wp_N {r : List D → Option D} {f : M (List Od)} {Q : D → DEnv → Src → Prop} (h : wp f e st fun ps e1 st1 => wrs e1 ps fun ds => wl (r ds) fun z => Q z e1 st1) : wp (cN r f) e st Q := by
  unfold cN
  refine wp_bnd (wp_mono h fun p e1 st1 h => wp_bnd (wp_rdsM ?_))
  unfold wrs at h ⊢
  obtain ⟨ds, h1, h2⟩ := h
  exact ⟨ds, h1, wp_lft h2⟩
theorem wp_FrN {r : List D → Option (List D)} {f : M (List Od)} {Q : List D → DEnv → Src → Prop} (h : wp f e st fun ps e1 st1 => wrs e1 ps fun ds => wl (r ds) fun z => Q z e1 st1) : wp (cFrN r f) e st Q := by
  unfold cFrN
  refine wp_bnd (wp_mono h fun p e1 st1 h => wp_bnd (wp_rdsM ?_))
  unfold wrs at h ⊢
  obtain ⟨ds, h1, h2⟩ := h
  exact ⟨ds, h1, wp_lft h2⟩
theorem wp_nil {Q : List α → DEnv → Src → Prop} (q : Q [] e st) : wp (ret []) e st Q := wp_ret q
theorem wp_Cons {f : M α} {g : M (List α)} {Q : List α → DEnv → Src → Prop} (h : wp f e st fun a e1 st1 => wp g e1 st1 fun r e2 st2 => Q (a :: r) e2 st2) : wp (cCons f g) e st Q := by
  unfold cCons
  exact wp_bnd (wp_mono h fun _ _ _ h => wp_bnd (wp_mono h fun _ _ _ h => wp_ret h))
theorem wp_List {f : M (List D)} {Q : D → DEnv → Src → Prop} (h : wp f e st fun ds e1 st1 => Q (.list ds) e1 st1) : wp (cList f) e st Q := by
  unfold cList
  exact wp_bnd (wp_mono h fun _ _ _ h => wp_ret h)
theorem wp_short {ds : List α} {Q : List α → DEnv → Src → Prop} (hl : ds.length ≤ 16777216) (q : Q ds e st) : wp (shortM ds) e st Q := wp_of (ev_short hl) q
theorem wp_Lst {f : M (List D)} {Q : List D → DEnv → Src → Prop} (h : wp f e st fun ds e1 st1 => ds.length ≤ 16777216 ∧ Q ds e1 st1) : wp (cLst f) e st Q := by
  unfold cLst
  exact wp_bnd (wp_mono h fun _ _ _ h => wp_short h.1 h.2)
theorem wp_Tup {f : M (List D)} {Q : D → DEnv → Src → Prop} (h : wp f e st fun ds e1 st1 => ds.length ≤ 16777216 ∧ Q (.tuple ds) e1 st1) : wp (cTup f) e st Q := by
  unfold cTup
  exact wp_bnd (wp_mono h fun _ _ _ h => wp_bnd (wp_short h.1 (wp_ret h.2)))
theorem wp_bol {b : Bool} {Q : Bool → DEnv → Src → Prop} (q : Q b e st) : wp (bolM (.bool b)) e st Q := wp_of rfl q
theorem wp_B {f : M D} {Q : Bool → DEnv → Src → Prop} (h : wp f e st fun d e1 st1 => wp (bolM d) e1 st1 Q) : wp (cB f) e st Q := by
  unfold cB; exact wp_bnd h
theorem wp_Not {f : M Bool} {Q : Bool → DEnv → Src → Prop} (h : wp f e st fun d e1 st1 => Q (!d) e1 st1) : wp (cNot f) e st Q := by
  unfold cNot; exact wp_bnd (wp_mono h fun _ _ _ h => wp_ret h)
theorem wp_NotV {f : M D} {Q : D → DEnv → Src → Prop} (h : wp f e st fun d e1 st1 => wp (bolM d) e1 st1 fun b e2 st2 => Q (.bool (!b)) e2 st2) : wp (cNotV f) e st Q := by
  unfold cNotV; exact wp_bnd (wp_mono h fun _ _ _ h => wp_bnd (wp_mono h fun _ _ _ h => wp_ret h))
theorem wp_ite {c : Bool} {f g : M α} (h1 : c = true → wp f e st Q) (h2 : c = false → wp g e st Q) : wp (if c then f else g) e st Q := by
  cases c with
  | true => exact h1 rfl
  | false => exact h2 rfl
theorem wp_And {f g : M Bool} {Q : Bool → DEnv → Src → Prop} (h : wp f e st fun b e1 st1 => (b = true → wp g e1 st1 Q) ∧ (b = false → Q false e1 st1)) : wp (cAnd f g) e st Q := by
  unfold cAnd; exact wp_bnd (wp_mono h fun _ _ _ h => wp_ite h.1 fun c => wp_ret (h.2 c))
theorem wp_Or {f g : M Bool} {Q : Bool → DEnv → Src → Prop} (h : wp f e st fun b e1 st1 => (b = true → Q true e1 st1) ∧ (b = false → wp g e1 st1 Q)) : wp (cOr f g) e st Q := by
  unfold cOr; exact wp_bnd (wp_mono h fun _ _ _ h => wp_ite (fun c => wp_ret (h.1 c)) h.2)
theorem wp_AndV {f g : M D} {Q : D → DEnv → Src → Prop} (h : wp f e st fun d e1 st1 => wp (bolM d) e1 st1 fun b e2 st2 => (b = true → wp g e2 st2 Q) ∧ (b = false → Q (.bool false) e2 st2)) : wp (cAndV f g) e st Q := by
  unfold cAndV; exact wp_bnd (wp_mono h fun _ _ _ h => wp_bnd (wp_mono h fun _ _ _ h => wp_ite h.1 fun c => wp_ret (h.2 c)))
theorem wp_OrV {f g : M D} {Q : D → DEnv → Src → Prop} (h : wp f e st fun d e1 st1 => wp (bolM d) e1 st1 fun b e2 st2 => (b = true → Q (.bool true) e2 st2) ∧ (b = false → wp g e2 st2 Q)) : wp (cOrV f g) e st Q := by
  unfold cOrV; exact wp_bnd (wp_mono h fun _ _ _ h => wp_bnd (wp_mono h fun _ _ _ h => wp_ite (fun c => wp_ret (h.1 c)) h.2))
theorem wp_If {t : M Bool} {f g : M α} (h : wp t e st fun b e1 st1 => (b = true → wp f e1 st1 Q) ∧ (b = false → wp g e1 st1 Q)) : wp (cIf t f g) e st Q := by
  unfold cIf; exact wp_bnd (wp_mono h fun _ _ _ h => wp_ite h.1 h.2)
theorem wp_Neg {f : M D} {Q : D → DEnv → Src → Prop} (h : wp f e st fun d e1 st1 => wl (negD d) fun z => Q z e1 st1) : wp (cNeg f) e st Q := by
  unfold cNeg; exact wp_bnd (wp_mono h fun _ _ _ h => wp_lft h)
theorem wp_Isi {T : String} {f : M Od} {Q : D → DEnv → Src → Prop} (h : wp f e st fun p e1 st1 => wrd e1 p fun d => wl (isD T d) fun z => Q (.bool z) e1 st1) : wp (cIsi T f) e st Q := by
  unfold cIsi
  refine wp_bnd (wp_mono h fun p e1 st1 h => wp_bnd (wp_rdM ?_))
  unfold wrd at h ⊢
  obtain ⟨d, h1, h2⟩ := h
  exact ⟨d, h1, wp_bnd (wp_lft (wl_mono h2 fun _ q => wp_ret q))⟩
theorem wp_intM {i : Int} {Q : Int → DEnv → Src → Prop} (q : Q i e st) : wp (intM (.int i)) e st Q := wp_of rfl q
theorem wp_Part {f : M D} {Q : Option Int → DEnv → Src → Prop} (h : wp f e st fun d e1 st1 => wp (intM d) e1 st1 fun i e2 st2 => Q (some i) e2 st2) : wp (cPart f) e st Q := by
  unfold cPart; exact wp_bnd (wp_mono h fun _ _ _ h => wp_bnd (wp_mono h fun _ _ _ h => wp_ret h))
theorem wp_Sl {f : M Od} {lo hi : M (Option Int)} {Q : D → DEnv → Src → Prop} (h : wp f e st fun p e1 st1 => wp lo e1 st1 fun a e2 st2 => wp hi e2 st2 fun b e3 st3 => wrd e3 p fun d => wl (slD d a b) fun z => Q z e3 st3) : wp (cSl f lo hi) e st Q := by
  unfold cSl
  refine wp_bnd (wp_mono h fun _ _ _ h => wp_bnd (wp_mono h fun _ _ _ h => wp_bnd (wp_mono h fun _ _ _ h => wp_bnd (wp_rdM ?_))))
  unfold wrd at h ⊢
  obtain ⟨d, h1, h2⟩ := h
  exact ⟨d, h1, wp_lft h2⟩
theorem wp_SlL {f : M Od} {lo hi : M (Option Int)} {Q : List D → DEnv → Src → Prop} (h : wp f e st fun p e1 st1 => wp lo e1 st1 fun a e2 st2 => wp hi e2 st2 fun b e3 st3 => wrd e3 p fun d => wp (listM d) e3 st3 fun ds e4 st4 => Q (cutL ds a b) e4 st4) : wp (cSlL f lo hi) e st Q := by
  unfold cSlL
  refine wp_bnd (wp_mono h fun _ _ _ h => wp_bnd (wp_mono h fun _ _ _ h => wp_bnd (wp_mono h fun _ _ _ h => wp_bnd (wp_rdM ?_))))
  unfold wrd at h ⊢
  obtain ⟨d, h1, h2⟩ := h
  exact ⟨d, h1, wp_bnd (wp_mono h2 fun _ _ _ h => wp_ret h)⟩
theorem wp_listM {ds : List D} {Q : List D → DEnv → Src → Prop} (q : Q ds e st) : wp (listM (.list ds)) e st Q := wp_of rfl q
/-! statements -/
variable {P : Fl → DEnv → Src → Prop}
theorem wp_skp (q : P .nx e st) : wp skp e st P := wp_of rfl q
@[irreducible] def kSeq (g : M Fl) (P : Fl → DEnv → Src → Prop) (fl : Fl) (e : DEnv) (st : Src) : Prop := match fl with
  | .nx => wp g e st P
  | .bk => P .bk e st
  | .ct => P .ct e st
  | .rt d => P (.rt d) e st
theorem kSeq_nx {g : M Fl} (h : wp g e st P) : kSeq g P .nx e st := by unfold kSeq; exact h
theorem kSeq_bk {g : M Fl} (h : P .bk e st) : kSeq g P .bk e st := by unfold kSeq; exact h
theorem kSeq_ct {g : M Fl} (h : P .ct e st) : kSeq g P .ct e st := by unfold kSeq; exact h
theorem kSeq_rt {g : M Fl} {d : D} (h : P (.rt d) e st) : kSeq g P (.rt d) e st := by unfold kSeq; exact h
theorem wp_Seq {f g : M Fl} (h : wp f e st (kSeq g P)) : wp (cSeq f g) e st P := by
  unfold cSeq
  refine wp_bnd (wp_mono h fun fl e1 st1 h => ?_)
  unfold kSeq at h
  cases fl with
  | nx => exact h
  | bk => exact wp_ret h
  | ct => exact wp_ret h
  | rt d => exact wp_ret h
/-- a step whose outcome is told first -/
theorem wp_cut {f g : M Fl} (R : DEnv → Src → Prop) (h : wp f e st fun fl e1 st1 => fl = .nx ∧ R e1 st1) (q : ∀ e1 st1, R e1 st1 → wp g e1 st1 P) : wp (cSeq f g) e st P :=
  wp_Seq (wp_mono h fun fl e1 st1 h => by obtain ⟨rfl, h⟩ := h; exact kSeq_nx (q _ _ h))
@[irreducible] def kRt (Q : D → Src → Prop) (fl : Fl) (_ : DEnv) (st : Src) : Prop := ∃ d, fl = .rt d ∧ Q d st
theorem kRt_rt {Q : D → Src → Prop} {d : D} (q : Q d st) : kRt Q (.rt d) e st := by unfold kRt; exact ⟨d, rfl, q⟩
@[irreducible] def kFor (I : DEnv → Src → Prop) (P : Fl → DEnv → Src → Prop) (fl : Fl) (e : DEnv) (st : Src) : Prop := match fl with
  | .nx => I e st
  | .ct => I e st
  | .bk => P .nx e st
  | .rt d => P (.rt d) e st
theorem kFor_nx {I : DEnv → Src → Prop} (h : I e st) : kFor I P .nx e st := by unfold kFor; exact h
theorem kFor_ct {I : DEnv → Src → Prop} (h : I e st) : kFor I P .ct e st := by unfold kFor; exact h
theorem kFor_bk {I : DEnv → Src → Prop} (h : P .nx e st) : kFor I P .bk e st := by unfold kFor; exact h
theorem kFor_rt {I : DEnv → Src → Prop} {d : D} (h : P (.rt d) e st) : kFor I P (.rt d) e st := by unfold kFor; exact h
theorem wb_t {A B : Prop} (a : A) : (true = true → A) ∧ (true = false → B) := ⟨fun _ => a, (fun h => nomatch h)⟩
theorem wb_f {A B : Prop} (b : B) : (false = true → A) ∧ (false = false → B) := ⟨(fun h => nomatch h), fun _ => b⟩
theorem wb_nt {A B : Prop} (b : B) : ((!true) = true → A) ∧ ((!true) = false → B) := ⟨(fun h => nomatch h), fun _ => b⟩
theorem wb_nf {A B : Prop} (a : A) : ((!false) = true → A) ∧ ((!false) = false → B) := ⟨fun _ => a, (fun h => nomatch h)⟩
theorem wb_T {A B : Prop} (a : A) : (True → A) ∧ (true = false → B) := ⟨fun _ => a, (fun h => nomatch h)⟩
theorem wb_F {A B : Prop} (b : B) : (false = true → A) ∧ (True → B) := ⟨(fun h => nomatch h), fun _ => b⟩
theorem wb_i {A B : Prop} {p : Prop} [Decidable p] (a : p → A) (b : ¬p → B) : (decide p = true → A) ∧ (decide p = false → B) := ⟨fun h => a (of_decide_eq_true h), fun h => b (of_decide_eq_false h)⟩
theorem wb_n {A B : Prop} {p : Prop} [Decidable p] (a : ¬p → A) (b : p → B) : ((!decide p) = true → A) ∧ ((!decide p) = false → B) := by
  by_cases h : p
  · simp [h]; exact b h
  · simp [h]; exact a h
theorem wp_Ret {f : M D} (h : wp f e st fun d e1 st1 => P (.rt d) e1 st1) : wp (cRet f) e st P := by
  unfold cRet; exact wp_bnd (wp_mono h fun _ _ _ h => wp_ret h)
theorem wp_Drop {f : M D} (h : wp f e st fun _ e1 st1 => P .nx e1 st1) : wp (cDrop f) e st P := by
  unfold cDrop; exact wp_bnd (wp_mono h fun _ _ _ h => wp_ret h)
theorem wset_of {i : Nat} {x : Option Sl} {e' : DEnv} {Q : DEnv → Prop} (hi : i < e.length) (h : e.set i x = e') (q : Q e') : wset e i x Q := by
  unfold wset; subst h; exact ⟨hi, q⟩
theorem wset_0 {a : Option Sl} {x : Option Sl} {Q : DEnv → Prop} (q : Q (x :: e)) : wset (a :: e) 0 x Q := wset_of (by simp) rfl q
theorem wset_s {i : Nat} {a : Option Sl} {x : Option Sl} {Q : DEnv → Prop} (q : wset e i x fun e' => Q (a :: e')) : wset (a :: e) (i + 1) x Q := by
  unfold wset at *; exact ⟨by simpa using q.1, q.2⟩
theorem wp_putM {i : Nat} {sl : Sl} {Q : Unit → DEnv → Src → Prop} (h : wset e i (some sl) fun e' => Q () e' st) : wp (putM i sl) e st Q := by
  unfold wset at h
  refine wp_of ?_ h.2
  unfold putM
  exact if_pos h.1
theorem wp_Set {i : Nat} {f : M D} (h : wp f e st fun d e1 st1 => wset e1 i (some (.v d)) fun e2 => P .nx e2 st1) : wp (cSet i f) e st P := by
  unfold cSet; exact wp_bnd (wp_mono h fun _ _ _ h => wp_bnd (wp_putM (by unfold wset at *; exact ⟨h.1, wp_ret h.2⟩)))
theorem wp_SetL {i : Nat} {f : M (List D)} (h : wp f e st fun d e1 st1 => wset e1 i (some (.l d)) fun e2 => P .nx e2 st1) : wp (cSetL i f) e st P := by
  unfold cSetL; exact wp_bnd (wp_mono h fun _ _ _ h => wp_bnd (wp_putM (by unfold wset at *; exact ⟨h.1, wp_ret h.2⟩)))
theorem wp_Rel {i : Nat} {g : M Fl} {e' : DEnv} (h : relE i e = e') (q : wp g e' st P) : wp (cRel i g) e st P := by
  obtain ⟨a, e2, st2, h1, h2⟩ := wp_iff.mp q
  refine wp_of ?_ h2
  unfold cRel
  subst h
  exact h1
/-! targets -/
@[irreducible] def wg (g : D → DEnv → Option DEnv) (d : D) (e : DEnv) (Q : DEnv → Prop) : Prop := ∃ e', g d e = some e' ∧ Q e'
@[irreducible] def wgs (g : List D → DEnv → Option DEnv) (ds : List D) (e : DEnv) (Q : DEnv → Prop) : Prop := ∃ e', g ds e = some e' ∧ Q e'
@[irreducible] def wz (g : List Sl → DEnv → Option DEnv) (ds : List Sl) (e : DEnv) (Q : DEnv → Prop) : Prop := ∃ e', g ds e = some e' ∧ Q e'
theorem wg_mono {g : D → DEnv → Option DEnv} {d : D} {Q R : DEnv → Prop} (h : wg g d e R) (q : ∀ e, R e → Q e) : wg g d e Q := by
  unfold wg at *
  obtain ⟨e', h1, h2⟩ := h
  exact ⟨e', h1, q _ h2⟩
theorem wg_Set {i : Nat} {d : D} {Q : DEnv → Prop} (h : wset e i (some (.v d)) Q) : wg (gSet i) d e Q := by
  unfold wset at h
  unfold wg gSet
  exact ⟨_, if_pos h.1, h.2⟩
theorem wgs_nil {Q : DEnv → Prop} (q : Q e) : wgs gNils [] e Q := by unfold wgs; exact ⟨e, rfl, q⟩
theorem wgs_cons {g : D → DEnv → Option DEnv} {h : List D → DEnv → Option DEnv} {d : D} {ds : List D} {Q : DEnv → Prop} (q : wg g d e fun e' => wgs h ds e' Q) : wgs (gConss g h) (d :: ds) e Q := by
  unfold wg wgs at *
  obtain ⟨e1, h1, e2, h2, h3⟩ := q
  refine ⟨e2, ?_, h3⟩
  show (match g d e with | none => none | some env' => h ds env') = _
  rw [h1]
  exact h2
theorem wg_tupT {n : Nat} {g : List D → DEnv → Option DEnv} {ds : List D} {Q : DEnv → Prop} (hl : ds.length = n) (h : wgs g ds e Q) : wg (gTupD n g) (.tuple ds) e Q := by
  unfold wg wgs at *
  obtain ⟨e1, h1, h2⟩ := h
  refine ⟨e1, ?_, h2⟩
  show (if ds.length = n then g ds e else none) = _
  rw [if_pos hl]; exact h1
theorem wg_tupL {n : Nat} {g : List D → DEnv → Option DEnv} {ds : List D} {Q : DEnv → Prop} (hl : ds.length = n) (h : wgs g ds e Q) : wg (gTupD n g) (.list ds) e Q := by
  unfold wg wgs at *
  obtain ⟨e1, h1, h2⟩ := h
  refine ⟨e1, ?_, h2⟩
  show (if ds.length = n then g ds e else none) = _
  rw [if_pos hl]; exact h1
theorem wp_Asg {f : M D} {g : D → DEnv → Option DEnv} (h : wp f e st fun d e1 st1 => wg g d e1 fun e2 => P .nx e2 st1) : wp (cAsg f g) e st P := by
  unfold cAsg
  refine wp_bnd (wp_mono h fun d e1 st1 h => ?_)
  unfold wg at h
  obtain ⟨e2, h1, h2⟩ := h
  refine wp_of ?_ h2
  show (match g d e1 with | none => none | some env' => some (Fl.nx, (env', st1))) = _
  rw [h1]
theorem wz_nil {Q : DEnv → Prop} (q : Q e) : wz zNil [] e Q := by unfold wz; exact ⟨e, rfl, q⟩
theorem wz_V {g : D → DEnv → Option DEnv} {h : List Sl → DEnv → Option DEnv} {d : D} {ds : List Sl} {Q : DEnv → Prop} (q : wg g d e fun e' => wz h ds e' Q) : wz (zV g h) (.v d :: ds) e Q := by
  unfold wg wz at *
  obtain ⟨e1, h1, e2, h2, h3⟩ := q
  refine ⟨e2, ?_, h3⟩
  show (match g d e with | none => none | some env' => h ds env') = _
  rw [h1]
  exact h2
theorem wz_L {i : Nat} {h : List Sl → DEnv → Option DEnv} {d : List D} {ds : List Sl} {Q : DEnv → Prop} (q : wset e i (some (.l d)) fun e' => wz h ds e' Q) : wz (zL i h) (.l d :: ds) e Q := by
  unfold wset wz at *
  obtain ⟨h1, e2, h2, h3⟩ := q
  refine ⟨e2, ?_, h3⟩
  show (if i < e.length then h ds (e.set i (some (.l d))) else none) = _
  rw [if_pos h1]
  exact h2
theorem wp_AsgT {f : M (List Sl)} {g : List Sl → DEnv → Option DEnv} (h : wp f e st fun d e1 st1 => wz g d e1 fun e2 => P .nx e2 st1) : wp (cAsgT f g) e st P := by
  unfold cAsgT
  refine wp_bnd (wp_mono h fun d e1 st1 h => ?_)
  unfold wz at h
  obtain ⟨e2, h1, h2⟩ := h
  refine wp_of ?_ h2
  show (match g d e1 with | none => none | some env' => some (Fl.nx, (env', st1))) = _
  rw [h1]
theorem wp_ConsV {f : M D} {g : M (List Sl)} {Q : List Sl → DEnv → Src → Prop} (h : wp f e st fun a e1 st1 => wp g e1 st1 fun r e2 st2 => Q (.v a :: r) e2 st2) : wp (cConsV f g) e st Q := by
  unfold cConsV
  exact wp_bnd (wp_mono h fun _ _ _ h => wp_bnd (wp_mono h fun _ _ _ h => wp_ret h))
theorem wp_ConsL {f : M (List D)} {g : M (List Sl)} {Q : List Sl → DEnv → Src → Prop} (h : wp f e st fun a e1 st1 => wp g e1 st1 fun r e2 st2 => Q (.l a :: r) e2 st2) : wp (cConsL f g) e st Q := by
  unfold cConsL
  exact wp_bnd (wp_mono h fun _ _ _ h => wp_bnd (wp_mono h fun _ _ _ h => wp_ret h))
@[irreducible] def wsets (is : List Nat) (sls : List Sl) (e : DEnv) (Q : DEnv → Prop) : Prop := ∃ e', setsE is sls e = some e' ∧ Q e'
theorem wsets_nil {Q : DEnv → Prop} (q : Q e) : wsets [] [] e Q := by unfold wsets; exact ⟨e, rfl, q⟩
theorem wsets_cons {i : Nat} {is : List Nat} {sl : Sl} {sls : List Sl} {Q : DEnv → Prop} (q : wset e i (some sl) fun e' => wsets is sls e' Q) : wsets (i :: is) (sl :: sls) e Q := by
  unfold wset wsets at *
  obtain ⟨h1, e2, h2, h3⟩ := q
  refine ⟨e2, ?_, h3⟩
  rw [setsE, if_pos h1]
  exact h2
theorem wp_Par {f : M (List Sl)} {is : List Nat} (h : wp f e st fun sls e1 st1 => wsets is sls e1 fun e2 => P .nx e2 st1) : wp (cPar f is) e st P := by
  unfold cPar
  refine wp_bnd (wp_mono h fun d e1 st1 h => ?_)
  unfold wsets at h
  obtain ⟨e2, h1, h2⟩ := h
  refine wp_of ?_ h2
  show (match setsE is d e1 with | none => none | some env' => some (Fl.nx, (env', st1))) = _
  rw [h1]
/-! calls -/
theorem wres_nil {Q : List Ar → Bool → Prop} (q : Q [] false) : wres e [] Q := by unfold wres; exact ⟨[], false, rfl, q⟩
theorem wres_d {d : D} {ps : List Od} {Q : List Ar → Bool → Prop} (h : wres e ps fun as fl => Q (.d d :: as) fl) : wres e (.d d :: ps) Q := by
  unfold wres at *
  obtain ⟨as, fl, h1, h2⟩ := h
  exact ⟨_, _, by rw [ev_resAd, h1]; rfl, h2⟩
theorem wres_v {i : Nat} {d : D} {ps : List Od} {Q : List Ar → Bool → Prop} (hi : e[i]? = some (some (.v d))) (h : wres e ps fun as fl => Q (.d d :: as) fl) : wres e (.i i :: ps) Q := by
  unfold wres at *
  obtain ⟨as, fl, h1, h2⟩ := h
  exact ⟨_, _, by rw [ev_resAi _ _ _ _ hi, h1]; rfl, h2⟩
theorem wres_s {i : Nat} {ps : List Od} {Q : List Ar → Bool → Prop} (hi : e[i]? = some (some .s)) (h : wres e ps fun as fl => Q (.s :: as) fl) : wres e (.i i :: ps) Q := by
  unfold wres at *
  obtain ⟨as, fl, h1, h2⟩ := h
  exact ⟨_, _, by rw [ev_resAs _ _ _ hi, h1]; rfl, h2⟩
theorem wres_l {i : Nat} {ds : List D} {ps : List Od} {Q : List Ar → Bool → Prop} (hi : e[i]? = some (some (.l ds))) (h : wres e ps fun as fl => Q (.d (.list ds) :: as) true) : wres e (.i i :: ps) Q := by
  unfold wres at *
  obtain ⟨as, fl, h1, h2⟩ := h
  exact ⟨_, _, by rw [ev_resAl _ _ _ _ hi, h1]; rfl, h2⟩
theorem wres_k {i : Nat} {kds : List (Key × D)} {ps : List Od} {Q : List Ar → Bool → Prop} (hi : e[i]? = some (some (.k kds))) (h : wres e ps fun as fl => Q (.d (.dict (kds.map fun p => (encK p.1, p.2))) :: as) true) : wres e (.i i :: ps) Q := by
  unfold wres at *
  obtain ⟨as, fl, h1, h2⟩ := h
  refine ⟨_, _, ?_, h2⟩
  rw [resA, hi, h1]
theorem wp_Call {φ : Phi} {f : M (List Od)} {Q : D → DEnv → Src → Prop} (h : wp f e st fun ps e1 st1 => wres e1 ps fun as fl => wφ φ as st1 fun d st2 => (fl && !atom d) = false ∧ Q d e1 st2) : wp (cCall φ f) e st Q := by
  obtain ⟨ps, e1, st1, h1, h2⟩ := wp_iff.mp h
  unfold wres wφ at h2
  obtain ⟨as, fl, h2, d, st2, h3, h4, h5⟩ := h2
  exact wp_of (call_of h1 h2 h3 h4) h5
/-- a def's promise from its body's -/
theorem wφ_fn {n : Nat} {g : M Fl} {as : List Ar} {Q : D → Src → Prop} (h : wp g (as.map arSl ++ List.replicate (n - as.length) none) st (kRt Q)) : wφ (φOf n g) as st Q := by
  obtain ⟨fl, e', st', h1, h2⟩ := wp_iff.mp h
  unfold kRt at h2
  obtain ⟨d, h2, h3⟩ := h2
  subst h2
  exact wφ_of (phi_of h1) h3
theorem wφ_fnN {n : Nat} {g : M Fl} {as : List Ar} {Q : D → Src → Prop} (h : wp g (as.map arSl ++ List.replicate (n - as.length) none) st fun fl _ st' => (∃ d, fl = .rt d ∧ Q d st') ∨ (fl = .nx ∧ Q .none st')) : wφ (φOf n g) as st Q := by
  obtain ⟨fl, e', st', h1, h2⟩ := wp_iff.mp h
  rcases h2 with ⟨d, h2, h3⟩ | ⟨h2, h3⟩
  · subst h2
    exact wφ_of (phi_of h1) h3
  · subst h2
    refine wφ_of ?_ h3
    unfold φOf
    rw [h1]
theorem wφ_eq {φ : Phi} {as : List Ar} {d : D} (h : wφ φ as st fun d' st' => d' = d ∧ st' = st) : φ as st = some (d, st) := by
  obtain ⟨d', st', h1, rfl, rfl⟩ := wφ_iff.mp h
  exact h1
theorem wφ_pick {many : Int} {Q : D → Src → Prop} (hm : many.natAbs.log2 < 9000) (h : ∀ (r : Int) st', 0 ≤ r → r < max 1 many → Q (.int r) st') : wφ phi_law_pick [.s, .d (.int many)] st Q := by
  obtain ⟨r, st', h1, h2, h3⟩ := pick_spec st many hm
  exact wφ_of h1 (h r st' h2 h3)
/-! iterables and loops -/
theorem wp_seqL {ds : List D} {Q : List D → DEnv → Src → Prop} (q : Q ds e st) : wp (seqM (.list ds)) e st Q := wp_of rfl q
theorem wp_seqT {ds : List D} {Q : List D → DEnv → Src → Prop} (q : Q ds e st) : wp (seqM (.tuple ds)) e st Q := wp_of rfl q
theorem wp_SeqI {f : M D} {Q : List D → DEnv → Src → Prop} (h : wp f e st fun d e1 st1 => wp (seqM d) e1 st1 Q) : wp (cSeqI f) e st Q := by
  unfold cSeqI; exact wp_bnd h
theorem wp_It {r : List D → Option (List D)} {f : M (List D)} {Q : List D → DEnv → Src → Prop} (h : wp f e st fun ds e1 st1 => wl (r ds) fun z => Q z e1 st1) : wp (cIt r f) e st Q := by
  unfold cIt; exact wp_bnd (wp_mono h fun _ _ _ h => wp_lft h)
theorem wp_Lrg1 {f : M D} {Q : List D → DEnv → Src → Prop} (h : wp f e st fun d e1 st1 => wl (rg1 d) fun z => Q z e1 st1) : wp (cLrg1 f) e st Q := by
  unfold cLrg1; exact wp_bnd (wp_mono h fun _ _ _ h => wp_lft h)
theorem wp_Lrg2 {f g : M D} {Q : List D → DEnv → Src → Prop} (h : wp f e st fun d e1 st1 => wp g e1 st1 fun d' e2 st2 => wl (rg2 d d') fun z => Q z e2 st2) : wp (cLrg2 f g) e st Q := by
  unfold cLrg2; exact wp_bnd (wp_mono h fun _ _ _ h => wp_bnd (wp_mono h fun _ _ _ h => wp_lft h))
theorem wp_Trg1 {f : M D} {Q : D → DEnv → Src → Prop} (h : wp f e st fun d e1 st1 => wl (rg1 d) fun z => Q (.tuple z) e1 st1) : wp (cTrg1 f) e st Q := by
  unfold cTrg1; exact wp_bnd (wp_mono h fun _ _ _ h => wp_bnd (wp_lft (wl_mono h fun _ h => wp_ret h)))
theorem wp_rng1 {m : Nat} {Q : List D → DEnv → Src → Prop} (hm : m ≤ 16777216) (q : Q (vec m fun i => (i : Int)) e st) : wp (rng1M [.int (m : Int)]) e st Q := wp_of (rng1_vec hm) q
theorem wp_rngK {n : Int} (m : Nat) {Q : List D → DEnv → Src → Prop} (hn : n = (m : Int)) (hm : m ≤ 16777216) (q : Q (vec m fun i => (i : Int)) e st) : wp (rng1M [.int n]) e st Q := by subst hn; exact wp_rng1 hm q
theorem All2.two {R : D → D → Prop} {a b : D} {ys : List D} (h : All2 R [a, b] ys) : ∃ x y, ys = [x, y] ∧ R a x ∧ R b y := by
  cases h with
  | cons p h => cases h with
    | cons q h => cases h; exact ⟨_, _, rfl, p, q⟩
theorem wp_For {it : M (List D)} {g : D → DEnv → Option DEnv} {b : M Fl} (h : wp it e st fun xs e1 st1 => wp (forL g b xs) e1 st1 P) : wp (cFor it g b) e st P := by
  unfold cFor; exact wp_bnd h
theorem wfor_nil {g : D → DEnv → Option DEnv} {b : M Fl} (q : P .nx e st) : wp (forL g b []) e st P := wp_of rfl q
theorem wfor_cons {g : D → DEnv → Option DEnv} {b : M Fl} {x : D} {xs : List D} (h : wg g x e fun e1 => wp b e1 st (kFor (fun e2 st2 => wp (forL g b xs) e2 st2 P) P)) : wp (forL g b (x :: xs)) e st P := by
  unfold wg at h
  obtain ⟨e1, h1, h2⟩ := h
  obtain ⟨fl, e2, st2, h3, h4⟩ := wp_iff.mp h2
  have hh : wp (bnd b (flK (forL g b xs))) e1 st P := by
    refine wp_bnd (wp_of h3 ?_)
    unfold kFor at h4
    cases fl with
    | nx => exact h4
    | bk => exact wp_ret h4
    | ct => exact h4
    | rt d => exact wp_ret h4
  obtain ⟨a, e3, st3, h5, h6⟩ := wp_iff.mp hh
  refine wp_of ?_ h6
  rw [forL]
  show (match g x e with | none => none | some env' => bnd b (flK (forL g b xs)) (env', st)) = _
  rw [h1]
  exact h5
/-- a loop with an invariant over what is left of the items -/
theorem wfor_inv {g : D → DEnv → Option DEnv} {b : M Fl} (I : List D → DEnv → Src → Prop) {xs : List D} (h0 : I xs e st)
    (hs : ∀ x xs e st, I (x :: xs) e st → wg g x e fun e1 => wp b e1 st (kFor (I xs) P))
    (hq : ∀ e st, I [] e st → P .nx e st) : wp (forL g b xs) e st P := by
  induction xs generalizing e st with
  | nil => exact wfor_nil (hq _ _ h0)
  | cons x xs ih =>
    refine wfor_cons (wg_mono (hs x xs e st h0) fun e1 h => wp_mono h fun fl e2 st2 h => ?_)
    unfold kFor at h ⊢
    cases fl with
    | nx => exact ih h
    | bk => exact h
    | ct => exact ih h
    | rt d => exact h
/-- a loop over m items, with an invariant over how many are done -/
theorem wfor_rng {g : D → DEnv → Option DEnv} {b : M Fl} {m : Nat} (F : Nat → D) (I : Nat → DEnv → Src → Prop) (h0 : I 0 e st)
    (hs : ∀ k, k < m → ∀ e st, I k e st → wg g (F k) e fun e1 => wp b e1 st (kFor (I (k + 1)) P))
    (hq : ∀ e st, I m e st → P .nx e st) : wp (forL g b ((List.range m).map F)) e st P := by
  suffices hh : ∀ n k e st, k + n = m → I k e st → wp (forL g b (((List.range m).map F).drop k)) e st P by
    simpa using hh m 0 e st (by omega) h0
  intro n
  induction n with
  | zero =>
    intro k e st hk hi
    have : k = m := by omega
    subst this
    rw [List.drop_eq_nil_of_le (by simp)]
    exact wfor_nil (hq _ _ hi)
  | succ n ih =>
    intro k e st hk hi
    rw [List.drop_eq_getElem_cons (by simp; omega)]
    simp only [List.getElem_map, List.getElem_range]
    refine wfor_cons (wg_mono (hs k (by omega) e st hi) fun e1 h => wp_mono h fun fl e2 st2 h => ?_)
    unfold kFor at h ⊢
    cases fl with
    | nx => exact ih (k + 1) _ _ (by omega) h
    | bk => exact h
    | ct => exact ih (k + 1) _ _ (by omega) h
    | rt d => exact h
/-! lists by comprehension -/
theorem wp_Lc {it : M (List D)} {g : D → DEnv → Option DEnv} {t : M Bool} {el : M D} {vs : List Nat} {Q : List D → DEnv → Src → Prop} (h : wp it e st fun xs e1 st1 => xs.length ≤ 16777216 ∧ wp (compL g t el vs xs []) (wipeE e1 vs) st1 fun ys e2 st2 => Q ys (restE e1 vs e2) st2) : wp (cLc it g t el vs) e st Q := by
  obtain ⟨xs, e1, st1, h1, h2, h3⟩ := wp_iff.mp h
  obtain ⟨ys, e2, st2, h4, h5⟩ := wp_iff.mp h3
  exact wp_of (ev_Lc it g t el vs xs (e1, st1) h1 h2 ys e2 st2 h4) h5
theorem wc_nil {g : D → DEnv → Option DEnv} {t : M Bool} {el : M D} {vs : List Nat} {acc : List D} {Q : List D → DEnv → Src → Prop} (q : Q acc e st) : wp (compL g t el vs [] acc) e st Q := wp_of (by rw [compL]; rfl) q
theorem wc_cons {g : D → DEnv → Option DEnv} {t : M Bool} {el : M D} {vs : List Nat} {x : D} {xs acc : List D} {Q : List D → DEnv → Src → Prop}
    (h : wg g x e fun e1 => wp t e1 st fun b e2 st2 => (b = true → wp el e2 st2 fun y e3 st3 => wp (compL g t el vs xs (acc ++ [y])) (wipeE e3 vs) st3 Q) ∧ (b = false → wp (compL g t el vs xs acc) (wipeE e2 vs) st2 Q)) : wp (compL g t el vs (x :: xs) acc) e st Q := by
  unfold wg at h
  obtain ⟨e1, h1, h2⟩ := h
  obtain ⟨b, e2, st2, h3, h4⟩ := wp_iff.mp h2
  cases b with
  | true =>
    obtain ⟨y, e3, st3, h5, h6⟩ := wp_iff.mp (h4.1 rfl)
    obtain ⟨a, e4, st4, h7, h8⟩ := wp_iff.mp h6
    exact wp_of ((comp_tt h1 h3 h5).trans h7) h8
  | false =>
    obtain ⟨a, e4, st4, h7, h8⟩ := wp_iff.mp (h4.2 rfl)
    exact wp_of ((comp_ff h1 h3).trans h7) h8
/-- a list of things, each worked out with no change -/
theorem wc_map {g : D → DEnv → Option DEnv} {el : M D} {vs : List Nat} {xs : List D} {Q : List D → DEnv → Src → Prop} (h : D → D)
    (H : ∀ x ∈ xs, wg g x e fun e1 => wp el e1 st fun y e2 st2 => y = h x ∧ st2 = st ∧ wipeE e2 vs = e) (q : Q (xs.map h) e st) : wp (compL g (ret true) el vs xs []) e st Q := by
  suffices hh : ∀ (xs acc : List D), (∀ x ∈ xs, wg g x e fun e1 => wp el e1 st fun y e2 st2 => y = h x ∧ st2 = st ∧ wipeE e2 vs = e) → wp (compL g (ret true) el vs xs acc) e st fun ys e2 st2 => ys = acc ++ xs.map h ∧ e2 = e ∧ st2 = st by
    refine wp_mono (hh xs [] H) ?_
    rintro a e1 st1 ⟨rfl, rfl, rfl⟩
    simpa using q
  intro xs
  induction xs with
  | nil => intro acc _; exact wc_nil (by simp)
  | cons x xs ih =>
    intro acc H
    refine wc_cons (wg_mono (H x List.mem_cons_self) fun e1 h1 => wp_ret ⟨fun _ => wp_mono h1 ?_, fun q => nomatch q⟩)
    rintro y e2 st2 ⟨rfl, rfl, h2⟩
    rw [h2]
    refine wp_mono (ih (acc ++ [h x]) fun y hy => H y (List.mem_cons_of_mem _ hy)) ?_
    rintro a e1 st1 ⟨rfl, rfl, rfl⟩
    simp
theorem wc_fil {g : D → DEnv → Option DEnv} {t : M Bool} {el : M D} {vs : List Nat} {xs : List D} {Q : List D → DEnv → Src → Prop} (w : D → Bool) (h : D → D)
    (H : ∀ x ∈ xs, wg g x e fun e1 => wp t e1 st fun b e2 st2 => b = w x ∧ (b = true → wp el e2 st2 fun y e3 st3 => y = h x ∧ st3 = st ∧ wipeE e3 vs = e) ∧ (b = false → st2 = st ∧ wipeE e2 vs = e)) (q : Q ((xs.filter w).map h) e st) : wp (compL g t el vs xs []) e st Q := by
  suffices hh : ∀ (xs acc : List D), (∀ x ∈ xs, wg g x e fun e1 => wp t e1 st fun b e2 st2 => b = w x ∧ (b = true → wp el e2 st2 fun y e3 st3 => y = h x ∧ st3 = st ∧ wipeE e3 vs = e) ∧ (b = false → st2 = st ∧ wipeE e2 vs = e)) → wp (compL g t el vs xs acc) e st fun ys e2 st2 => ys = acc ++ (xs.filter w).map h ∧ e2 = e ∧ st2 = st by
    refine wp_mono (hh xs [] H) ?_
    rintro a e1 st1 ⟨rfl, rfl, rfl⟩
    simpa using q
  intro xs
  induction xs with
  | nil => intro acc _; exact wc_nil (by simp)
  | cons x xs ih =>
    intro acc H
    refine wc_cons (wg_mono (H x List.mem_cons_self) fun e1 h1 => wp_mono h1 ?_)
    rintro b e2 st2 ⟨rfl, h2, h3⟩
    refine ⟨fun hb => wp_mono (h2 hb) ?_, fun hb => ?_⟩
    · rintro y e3 st3 ⟨rfl, rfl, h4⟩
      rw [h4]
      refine wp_mono (ih (acc ++ [h x]) fun y hy => H y (List.mem_cons_of_mem _ hy)) ?_
      rintro a e1 st1 ⟨rfl, rfl, rfl⟩
      simp [hb]
    · obtain ⟨rfl, h4⟩ := h3 hb
      rw [h4]
      refine wp_mono (ih acc fun y hy => H y (List.mem_cons_of_mem _ hy)) ?_
      rintro a e1 st1 ⟨rfl, rfl, rfl⟩
      simp [hb]
theorem wc_rng {g : D → DEnv → Option DEnv} {el : M D} {vs : List Nat} {m : Nat} {Q : List D → DEnv → Src → Prop} (F H : Nat → D)
    (hh : ∀ i, i < m → wg g (F i) e fun e1 => wp el e1 st fun y e2 st2 => y = H i ∧ st2 = st ∧ wipeE e2 vs = e) (q : Q ((List.range m).map H) e st) : wp (compL g (ret true) el vs ((List.range m).map F) []) e st Q := by
  suffices hq : ∀ (is : List Nat) (acc : List D), (∀ i ∈ is, i < m) → wp (compL g (ret true) el vs (is.map F) acc) e st fun ys e2 st2 => ys = acc ++ is.map H ∧ e2 = e ∧ st2 = st by
    refine wp_mono (hq (List.range m) [] fun i hi => List.mem_range.mp hi) ?_
    rintro a e1 st1 ⟨rfl, rfl, rfl⟩
    simpa using q
  intro is
  induction is with
  | nil => intro acc _; exact wc_nil (by simp)
  | cons i is ih =>
    intro acc hi
    refine wc_cons (wg_mono (hh i (hi i List.mem_cons_self)) fun e1 h1 => wp_ret ⟨fun _ => wp_mono h1 ?_, fun q => nomatch q⟩)
    rintro y e2 st2 ⟨rfl, rfl, h2⟩
    rw [h2]
    refine wp_mono (ih (acc ++ [H i]) fun y hy => hi y (List.mem_cons_of_mem _ hy)) ?_
    rintro a e1 st1 ⟨rfl, rfl, rfl⟩
    simp
theorem wc_vec {g : D → DEnv → Option DEnv} {el : M D} {vs : List Nat} {m : Nat} {Q : List D → DEnv → Src → Prop} (F : Nat → D) (h : Nat → Int)
    (hh : ∀ i, i < m → wg g (F i) e fun e1 => wp el e1 st fun y e2 st2 => y = .int (h i) ∧ st2 = st ∧ wipeE e2 vs = e) (q : Q (vec m h) e st) : wp (compL g (ret true) el vs ((List.range m).map F) []) e st Q := wc_rng F (fun i => .int (h i)) hh q
theorem wc_vecv {g : D → DEnv → Option DEnv} {el : M D} {vs : List Nat} {m : Nat} {f : Nat → Int} {Q : List D → DEnv → Src → Prop} (h : Nat → Int)
    (hh : ∀ i, i < m → wg g (.int (f i)) e fun e1 => wp el e1 st fun y e2 st2 => y = .int (h i) ∧ st2 = st ∧ wipeE e2 vs = e) (q : Q (vec m h) e st) : wp (compL g (ret true) el vs (vec m f) []) e st Q := wc_vec _ h hh q
/-- a list of things, each of which may change the source -/
theorem wc_src {g : D → DEnv → Option DEnv} {el : M D} {vs : List Nat} {xs : List D} {Q : List D → DEnv → Src → Prop} (R : D → D → Prop)
    (H : ∀ x ∈ xs, ∀ st, wg g x e fun e1 => wp el e1 st fun y e2 st2 => R x y ∧ wipeE e2 vs = e) (q : ∀ ys st', All2 R xs ys → Q ys e st') : wp (compL g (ret true) el vs xs []) e st Q := by
  suffices hh : ∀ (xs acc : List D) (st : Src), (∀ x ∈ xs, ∀ st, wg g x e fun e1 => wp el e1 st fun y e2 st2 => R x y ∧ wipeE e2 vs = e) → wp (compL g (ret true) el vs xs acc) e st fun zs e2 st2 => ∃ ys, zs = acc ++ ys ∧ e2 = e ∧ All2 R xs ys by
    refine wp_mono (hh xs [] st H) ?_
    rintro a e1 st1 ⟨ys, h1, h2, hy⟩
    subst h2
    rw [h1]
    exact q ys st1 hy
  intro xs
  induction xs with
  | nil => intro acc st _; exact wc_nil ⟨[], by simp, rfl, .nil⟩
  | cons x xs ih =>
    intro acc st H
    refine wc_cons (wg_mono (H x List.mem_cons_self st) fun e1 h1 => wp_ret ⟨fun _ => wp_mono h1 ?_, fun q => nomatch q⟩)
    rintro y e2 st2 ⟨hr, h2⟩
    rw [h2]
    refine wp_mono (ih (acc ++ [y]) st2 fun y hy => H y (List.mem_cons_of_mem _ hy)) ?_
    rintro a e1 st1 ⟨ys, rfl, rfl, hy⟩
    exact ⟨y :: ys, by simp, rfl, .cons hr hy⟩
/-! while -/
theorem whF_more {t : M Bool} {b : M Fl} : ∀ (n : Nat) (s : S) r, whF t b n s = some r → whF t b (n + 1) s = some r
  | 0, s, r, h => by simp [whF] at h
  | n + 1, s, r, h => by
    rw [whF] at h ⊢
    rw [ev_If] at h ⊢
    cases ht : t s with
    | none => rw [ht] at h; exact nomatch h
    | some p =>
      rw [ht] at h
      simp only [Option.bind_some] at h ⊢
      by_cases hp : p.1 = true
      · rw [if_pos hp] at h ⊢
        rw [ev_bnd] at h ⊢
        cases hb : b p.2 with
        | none => rw [hb] at h; exact nomatch h
        | some q =>
          rw [hb] at h
          simp only [Option.bind_some] at h ⊢
          cases hq : q.1 with
          | nx => rw [hq] at h; exact whF_more n _ _ h
          | ct => rw [hq] at h; exact whF_more n _ _ h
          | bk => rw [hq] at h; exact h
          | rt d => rw [hq] at h; exact h
      · rw [if_neg hp] at h ⊢; exact h
/-- a while loop by a measure -/
theorem wp_While {t : M Bool} {b : M Fl} (I : Nat → DEnv → Src → Prop) {n : Nat} (h0 : I n e st)
    (hs : ∀ n e st, I n e st → wp t e st fun c e1 st1 => (c = true → wp b e1 st1 (kFor (fun e2 st2 => ∃ m, m < n ∧ I m e2 st2) P)) ∧ (c = false → P .nx e1 st1)) : wp (cWhile t b) e st P := by
  suffices hh : ∃ k fl e' st', whF t b k (e, st) = some (fl, (e', st')) ∧ P fl e' st' by
    obtain ⟨k, fl, e', st', h1, h2⟩ := hh
    exact wp_of (cWhile_eq h1) h2
  induction n using Nat.strongRecOn generalizing e st with
  | ind n ih =>
    obtain ⟨c, e1, st1, h1, h2, h3⟩ := wp_iff.mp (hs n e st h0)
    cases c with
    | false =>
      refine ⟨1, .nx, e1, st1, ?_, h3 rfl⟩
      rw [whF_succ]
      exact bnd_eq h1
    | true =>
      obtain ⟨fl, e2, st2, h4, h5⟩ := wp_iff.mp (h2 rfl)
      unfold kFor at h5
      have go : ∀ m, m < n → I m e2 st2 → (∀ s, flK (whF t b 0) fl s = whF t b 0 s) → ∃ k fl e' st', whF t b k (e, st) = some (fl, (e', st')) ∧ P fl e' st' := fun m hm hi hf => by
        obtain ⟨k, fl', e3, st3, h6, h7⟩ := ih m hm hi
        refine ⟨k + 1, fl', e3, st3, ?_, h7⟩
        rw [whF_succ]
        refine (bnd_eq h1).trans ?_
        show bnd b (flK (whF t b k)) (e1, st1) = _
        refine (bnd_eq h4).trans ?_
        cases fl with
        | nx => exact h6
        | ct => exact h6
        | bk => exact nomatch hf (e, st)
        | rt d => exact nomatch hf (e, st)
      cases fl with
      | nx => obtain ⟨m, hm, hi⟩ := h5; exact go m hm hi fun _ => rfl
      | ct => obtain ⟨m, hm, hi⟩ := h5; exact go m hm hi fun _ => rfl
      | bk =>
        refine ⟨1, .nx, e2, st2, ?_, h5⟩
        rw [whF_succ]
        refine (bnd_eq h1).trans ?_
        exact bnd_eq h4
      | rt d =>
        refine ⟨1, .rt d, e2, st2, ?_, h5⟩
        rw [whF_succ]
        refine (bnd_eq h1).trans ?_
        exact bnd_eq h4
/-! own lists and dicts -/
@[irreducible] def wsl (e : DEnv) (i : Nat) (Q : Sl → Prop) : Prop := ∃ sl, e[i]? = some (some sl) ∧ Q sl
@[irreducible] def wol (e : DEnv) (i : Nat) (Q : List D → Prop) : Prop := ∃ ds, e[i]? = some (some (.l ds)) ∧ Q ds
theorem wsl_of {i : Nat} {sl : Sl} {Q : Sl → Prop} (h : e[i]? = some (some sl)) (q : Q sl) : wsl e i Q := by unfold wsl; exact ⟨sl, h, q⟩
theorem wol_of {i : Nat} {ds : List D} {Q : List D → Prop} (h : e[i]? = some (some (.l ds))) (q : Q ds) : wol e i Q := by unfold wol; exact ⟨ds, h, q⟩
theorem le_and {n : Nat} {B : Prop} (h : n ≤ 16777216) (b : B) : n ≤ 16777216 ∧ B := ⟨h, b⟩
theorem wp_OwnL {i : Nat} {f : M (List D)} {op : List D → List D → Option (D × List D)} {Q : D → DEnv → Src → Prop} (h : wol e i fun _ => wp f e st fun args e1 st1 => wol e1 i fun ds => wl (op ds args) fun p => wset e1 i (some (.l p.2)) fun e2 => Q p.1 e2 st1) : wp (mOwnL i f op) e st Q := by
  unfold wol at h
  obtain ⟨ds0, h0, h⟩ := h
  obtain ⟨args, e1, st1, h1, ds, h2, h3⟩ := wp_iff.mp h
  obtain ⟨p, h4, h5⟩ := wl_iff.mp h3
  unfold wset at h5
  refine wp_of (ev_OwnL (ds' := p.2) (d := p.1) h0 h1 h2 h4) h5.2
theorem wp_SetI {i : Nat} {fv fk : M D} (h : wp fv e st fun v e1 st1 => wsl e1 i fun _ => wp fk e1 st1 fun k e2 st2 => wsl e2 i fun sl => wl (setSl sl k v) fun sl' => wset e2 i (some sl') fun e3 => P .nx e3 st2) : wp (cSetI i fv fk) e st P := by
  unfold wsl at h
  obtain ⟨v, e1, st1, h1, sl0, h2, h3⟩ := wp_iff.mp h
  obtain ⟨k, e2, st2, h4, sl, h5, h6⟩ := wp_iff.mp h3
  obtain ⟨sl', h7, h8⟩ := wl_iff.mp h6
  unfold wset at h8
  refine wp_of ?_ h8.2
  have e0 : isSl i (e1, st1) = some ((), (e1, st1)) := by unfold isSl; rw [h2]
  refine (bnd_eq h1).trans ((bnd_eq e0).trans ((bnd_eq h4).trans ?_))
  unfold slM
  rw [h5]
  simp only [h7, Option.map_some]
theorem wp_AugI {i : Nat} {o : Int → Int → Option Int} {fk fe : M D} (h : wsl e i fun _ => wp fk e st fun k e1 st1 => wsl e1 i fun sl => wl (getSl sl k) fun old => wset e1 i (some sl) fun e1' => wp fe e1' st1 fun d e2 st2 => wsl e2 i fun sl' => wl (intO o old d) fun r => wl (setSl sl' k (.int r)) fun sl2 => wset e2 i (some sl2) fun e3 => P .nx e3 st2) : wp (cAugI i o fk fe) e st P := by
  unfold wsl at h
  obtain ⟨sl0, h0, h⟩ := h
  obtain ⟨k, e1, st1, h1, sl, h2, h3⟩ := wp_iff.mp h
  obtain ⟨old, h4, h5⟩ := wl_iff.mp h3
  unfold wset at h5
  obtain ⟨d, e2, st2, h6, sl', h7, h8⟩ := wp_iff.mp h5.2
  obtain ⟨r, h9, h10⟩ := wl_iff.mp h8
  obtain ⟨sl2, h11, h12⟩ := wl_iff.mp h10
  refine wp_of ?_ h12.2
  have e0 : isSl i (e, st) = some ((), (e, st)) := by unfold isSl; rw [h0]
  have e1 : (slM i fun sl => (getSl sl k).map fun d => (d, sl)) (e1, st1) = some (old, (e1.set i (some sl), st1)) := by
    unfold slM; rw [h2]; simp only [h4, Option.map_some]
  refine (bnd_eq e0).trans ((bnd_eq h1).trans ((bnd_eq e1).trans ((bnd_eq h6).trans ?_)))
  unfold slM
  rw [h7]
  simp only [h9, h11, Option.map_some]
theorem wp_Aug {i : Nat} {o : Int → Int → Option Int} {fe : M D} (h : wp (mVar i) e st fun old e1 st1 => wp fe e1 st1 fun d e2 st2 => wl (intO o old d) fun r => wset e2 i (some (.v (.int r))) fun e3 => P .nx e3 st2) : wp (cAug i o fe) e st P := by
  unfold cAug
  refine wp_bnd (wp_mono h fun _ _ _ h => wp_bnd (wp_mono h fun _ _ _ h => wp_bnd (wp_lft (wl_mono h fun r h => wp_bnd (wp_putM ?_)))))
  unfold wset at *
  exact ⟨h.1, wp_ret h.2⟩
theorem wl_oAdd {i j : Int} {Q : Int → Prop} (q : Q (i + j)) : wl (intO oAdd (.int i) (.int j)) Q := wl_of rfl q
theorem wl_oSub {i j : Int} {Q : Int → Prop} (q : Q (i - j)) : wl (intO oSub (.int i) (.int j)) Q := wl_of rfl q
theorem wl_setN {ds : List D} {n : Int} {j : Nat} {v : D} {Q : Sl → Prop} (h : ixN ds.length n = some j) (q : Q (.l (ds.set j v))) : wl (setSl (.l ds) (.int n) v) Q := by
  refine wl_of (a := .l (ds.set j v)) ?_ q
  show (match ixN ds.length n with | some j => some (Sl.l (ds.set j v)) | none => none) = _
  rw [h]
theorem wl_setV {m j : Nat} {f : Nat → Int} {a : Int} {Q : Sl → Prop} (h : j < m) (q : Q (.l (vec m fun k => if k = j then a else f k))) : wl (setSl (.l (vec m f)) (.int (j : Int)) (.int a)) Q :=
  wl_setN (j := j) (by rw [vec_len]; exact ixN_nat h) (by rw [vec_set]; exact q)
theorem wl_setL {ds : List D} {j : Nat} {v : D} {Q : Sl → Prop} (h : j < ds.length) (q : Q (.l (ds.set j v))) : wl (setSl (.l ds) (.int (j : Int)) v) Q := wl_setN (ixN_nat h) q
theorem wl_getV {m j : Nat} {f : Nat → Int} {Q : D → Prop} (h : j < m) (q : Q (.int (f j))) : wl (getSl (.l (vec m f)) (.int (j : Int))) Q := wl_of (ix_vec h) q
theorem wp_Met {r : D → List D → Option D} {o : M Od} {f : M (List Od)} {Q : D → DEnv → Src → Prop} (h : wp o e st fun p e1 st1 => wrd e1 p fun d1 => wp f e1 st1 fun ps e2 st2 => wrd e2 p fun d => wrs e2 ps fun ds => wl (if recv d1 = true then rM r (tyD d1) d ds else none) fun z => Q z e2 st2) : wp (cMet r o f) e st Q := by
  unfold cMet
  refine wp_bnd (wp_mono h fun p e1 st1 h => wp_bnd (wp_rdM ?_))
  unfold wrd at h ⊢
  obtain ⟨d1, h1, h⟩ := h
  refine ⟨d1, h1, wp_bnd (wp_mono h fun ps e2 st2 h => wp_bnd (wp_rdM ?_))⟩
  obtain ⟨d, h2, h⟩ := h
  unfold wrd
  refine ⟨d, h2, wp_bnd (wp_rdsM ?_)⟩
  unfold wrs at *
  obtain ⟨ds, h3, h⟩ := h
  exact ⟨ds, h3, wp_lft h⟩
theorem wl_append {ds : List D} {d : D} {Q : D × List D → Prop} (hl : ds.length < 16777216) (q : Q (.none, ds ++ [d])) : wl (opAppend ds [d]) Q := wl_of (show (if ds.length < line then some (PyData.none, ds ++ [d]) else none) = _ from if_pos hl) q
theorem wl_extend {ds es : List D} {Q : D × List D → Prop} (hl : ds.length + es.length ≤ 16777216) (q : Q (.none, ds ++ es)) : wl (opExtend ds [.list es]) Q := wl_of (show (if ds.length + es.length ≤ line then some (PyData.none, ds ++ es) else none) = _ from if_pos hl) q
/-! plain operations -/
section
variable {Q : D → Prop}
theorem wl_ix0t {a : D} {ds : List D} (q : Q a) : wl (ixD (.tuple (a :: ds)) (.int 0)) Q := wl_of (by simp [ixD, atI, ixN]) q
theorem wl_ix0l {a : D} {ds : List D} (q : Q a) : wl (ixD (.list (a :: ds)) (.int 0)) Q := wl_of (by simp [ixD, atI, ixN]) q
theorem wl_ix1t {a b : D} {ds : List D} (q : Q b) : wl (ixD (.tuple (a :: b :: ds)) (.int 1)) Q := wl_of (by
    show atI (a :: b :: ds) 1 = some b
    unfold atI ixN
    rw [if_pos (by decide), if_pos (by simp; omega)]
    rfl) q
theorem wl_ix1l {a b : D} {ds : List D} (q : Q b) : wl (ixD (.list (a :: b :: ds)) (.int 1)) Q := wl_of (by
    show atI (a :: b :: ds) 1 = some b
    unfold atI ixN
    rw [if_pos (by decide), if_pos (by simp; omega)]
    rfl) q
theorem wl_ix2t {a b c : D} {ds : List D} (q : Q c) : wl (ixD (.tuple (a :: b :: c :: ds)) (.int 2)) Q := wl_of (by
    show atI (a :: b :: c :: ds) 2 = some c
    unfold atI ixN
    rw [if_pos (by decide), if_pos (by simp; omega)]
    rfl) q
theorem wl_ixvt {m : Nat} {f : Nat → Int} {i : Nat} (h : i < m) (q : Q (.int (f i))) : wl (ixD (.tuple (vec m f)) (.int (i : Int))) Q := wl_of (ix_vec h) q
theorem wl_ixvl {m : Nat} {f : Nat → Int} {i : Nat} (h : i < m) (q : Q (.int (f i))) : wl (ixD (.list (vec m f)) (.int (i : Int))) Q := wl_of (ix_vec h) q
theorem wl_ixt {ds : List D} {d : D} {i : Nat} (h : ds[i]? = some d) (q : Q d) : wl (ixD (.tuple ds) (.int (i : Int))) Q := wl_of (by
    obtain ⟨hi, h⟩ := List.getElem?_eq_some_iff.mp h
    show atI ds (i : Int) = some d
    unfold atI
    rw [ixN_nat hi]
    simpa using List.getElem?_eq_some_iff.mpr ⟨hi, h⟩) q
theorem wl_ixl {ds : List D} {d : D} {i : Nat} (h : ds[i]? = some d) (q : Q d) : wl (ixD (.list ds) (.int (i : Int))) Q := wl_of (by
    obtain ⟨hi, h⟩ := List.getElem?_eq_some_iff.mp h
    show atI ds (i : Int) = some d
    unfold atI
    rw [ixN_nat hi]
    simpa using List.getElem?_eq_some_iff.mpr ⟨hi, h⟩) q
theorem wl_add {i j : Int} (q : Q (.int (i + j))) : wl (addD (.int i) (.int j)) Q := wl_of rfl q
theorem wl_sub {i j : Int} (q : Q (.int (i - j))) : wl (subD (.int i) (.int j)) Q := wl_of rfl q
theorem wl_neg {i : Int} (q : Q (.int (-i))) : wl (negD (.int i)) Q := wl_of rfl q
theorem wl_mul {i j : Int} (h : mulOk i j) (q : Q (.int (i * j))) : wl (mulD (.int i) (.int j)) Q := wl_of (ev_mul h) q
theorem wl_mod {i j : Int} (h : 0 < j) (q : Q (.int (i % j))) : wl (modD (.int i) (.int j)) Q := wl_of (ev_mod h) q
theorem wl_fdiv {i j : Int} (h : 0 < j) (h2 : j.natAbs.log2 < 9000) (q : Q (.int (i / j))) : wl (fdivD (.int i) (.int j)) Q := wl_of (ev_fdiv h h2) q
theorem wl_lt {i j : Int} (q : Q (.bool (decide (i < j)))) : wl (ltD (.int i) (.int j)) Q := wl_of rfl q
theorem wl_le {i j : Int} (q : Q (.bool (decide (i ≤ j)))) : wl (leD (.int i) (.int j)) Q := wl_of rfl q
theorem wl_gt {i j : Int} (q : Q (.bool (decide (j < i)))) : wl (gtD (.int i) (.int j)) Q := wl_of rfl q
theorem wl_ge {i j : Int} (q : Q (.bool (decide (j ≤ i)))) : wl (geD (.int i) (.int j)) Q := wl_of rfl q
theorem shp_int (i : Int) : shp (.int i) = true := by unfold shp; rw [PyData.plain, PyData.depth]; rfl
theorem eqvI (i j : Int) : PyData.eqv (.int i) (.int j) = decide (i = j) := by
  simp only [PyData.eqv]
  rw [Bool.eq_iff_iff, beq_iff_eq, decide_eq_true_eq]
theorem wl_eqI {i j : Int} (q : Q (.bool (decide (i = j)))) : wl (eqD (.int i) (.int j)) Q := wl_of (by unfold eqD; rw [shp_int, shp_int, eqvI]; rfl) q
theorem wl_neI {i j : Int} (q : Q (.bool (!decide (i = j)))) : wl (neD (.int i) (.int j)) Q := wl_of (by unfold neD; rw [shp_int, shp_int, eqvI]; rfl) q
theorem wl_eq {d d' : D} (h1 : shp d = true) (h2 : shp d' = true) (q : Q (.bool (PyData.eqv d d'))) : wl (eqD d d') Q := wl_of (by unfold eqD; rw [h1, h2]; rfl) q
theorem wl_ne {d d' : D} (h1 : shp d = true) (h2 : shp d' = true) (q : Q (.bool (!PyData.eqv d d'))) : wl (neD d d') Q := wl_of (by unfold neD; rw [h1, h2]; rfl) q
/-- what is told to be one and the same is not unlike -/
theorem wl_ne_refl {d : D} (h : shp d = true) (q : Q (.bool false)) : wl (neD d d) Q := wl_ne h h (by
    have : d.plain = true := by unfold shp at h; simp at h; exact h.1
    rw [SeqAt.eqv_refl_plain d this]; exact q)
theorem wl_eq_refl {d : D} (h : shp d = true) (q : Q (.bool true)) : wl (eqD d d) Q := wl_eq h h (by
    have : d.plain = true := by unfold shp at h; simp at h; exact h.1
    rw [SeqAt.eqv_refl_plain d this]; exact q)
theorem wl_ne_same {d d' : D} (e : d = d') (h : shp d = true) (q : Q (.bool false)) : wl (neD d d') Q := by subst e; exact wl_ne_refl h q
theorem wl_eq_same {d d' : D} (e : d = d') (h : shp d = true) (q : Q (.bool true)) : wl (eqD d d') Q := by subst e; exact wl_eq_refl h q
theorem eqv_str (x y : Str) : PyData.eqv (.str x) (.str y) = decide (x = y) := by
  simp only [PyData.eqv]
  rw [Bool.eq_iff_iff]
  simp
theorem shp_str {x : Str} : shp (.str x) = true := by unfold shp; rw [PyData.plain, PyData.depth]; rfl
theorem wl_neStrE {x y : Str} (h : x = y) (q : Q (.bool false)) : wl (neD (.str x) (.str y)) Q := wl_ne shp_str shp_str (by rw [eqv_str, decide_eq_true h]; exact q)
theorem wl_neStr {x : Str} (q : Q (.bool false)) : wl (neD (.str x) (.str x)) Q := wl_ne shp_str shp_str (by rw [eqv_str, decide_eq_true rfl]; exact q)
theorem wl_lenlv {m : Nat} {f : Nat → Int} (q : Q (.int (m : Int))) : wl (lenN [.list (vec m f)]) Q := wl_of (by rw [ev_len_l, vec_len]) q
theorem wl_lentv {m : Nat} {f : Nat → Int} (q : Q (.int (m : Int))) : wl (lenN [.tuple (vec m f)]) Q := wl_of (by rw [ev_len_t, vec_len]) q
theorem wl_lenl {ds : List D} (q : Q (.int (ds.length : Int))) : wl (lenN [.list ds]) Q := wl_of rfl q
theorem wl_lent {ds : List D} (q : Q (.int (ds.length : Int))) : wl (lenN [.tuple ds]) Q := wl_of rfl q
theorem wl_tupl {ds : List D} (q : Q (.tuple ds)) : wl (tupN [.list ds]) Q := wl_of rfl q
theorem wl_tupt {ds : List D} (q : Q (.tuple ds)) : wl (tupN [.tuple ds]) Q := wl_of rfl q
theorem wl_listl {ds : List D} {Q : List D → Prop} (q : Q ds) : wl (listN [.list ds]) Q := wl_of rfl q
theorem wl_listt {ds : List D} {Q : List D → Prop} (q : Q ds) : wl (listN [.tuple ds]) Q := wl_of rfl q
theorem wl_max2 {i j : Int} (q : Q (.int (if j > i then j else i))) : wl (max2N [.int i, .int j]) Q := wl_of rfl q
theorem wl_min2 {i j : Int} (q : Q (.int (if j < i then j else i))) : wl (min2N [.int i, .int j]) Q := wl_of rfl q
theorem wl_abs {i : Int} (q : Q (.int (if i < 0 then -i else i))) : wl (absN [.int i]) Q := wl_of rfl q
theorem wl_int {i : Int} (q : Q (.int i)) : wl (intN [.int i]) Q := wl_of rfl q
theorem wl_rg1 {m : Nat} {Q : List D → Prop} (h : m ≤ 16777216) (q : Q (vec m fun i => (i : Int))) : wl (rg1 (.int (m : Int))) Q := wl_of (rg1_vec h) q
theorem wl_rgK {n : Int} (m : Nat) {Q : List D → Prop} (hn : n = (m : Int)) (h : m ≤ 16777216) (q : Q (vec m fun i => (i : Int))) : wl (rg1 (.int n)) Q := by subst hn; exact wl_rg1 h q
theorem wl_repr {k w : Nat} {d : D} (h : Sm k w d) (hk : k ≤ 64) (hw : w ≤ 1048576) (q : Q (.str d.shown)) : wl (reprN [d]) Q := wl_of (h.repr hk hw) q
theorem wl_repT {m : Nat} {a : Int} (h : m ≤ 16777216) (q : Q (.tuple (vec m fun _ => a))) : wl (mulD (.tuple [.int a]) (.int (m : Int))) Q := wl_of (repT_vec h) q
theorem wl_repL {m : Nat} {a : Int} {Q : List D → Prop} (h : m ≤ 16777216) (q : Q (vec m fun _ => a)) : wl (repL (.list [.int a]) (.int (m : Int))) Q := wl_of (repL_vec h) q
theorem wl_addT {xs ys : List D} (h : xs.length + ys.length ≤ 16777216) (q : Q (.tuple (xs ++ ys))) : wl (addD (.tuple xs) (.tuple ys)) Q := wl_of (show (if xs.length + ys.length ≤ line then some (PyData.tuple (xs ++ ys)) else none) = _ from if_pos h) q
theorem wl_addLL {xs ys : List D} {Q : List D → Prop} (h : xs.length + ys.length ≤ 16777216) (q : Q (xs ++ ys)) : wl (addL (.list xs) (.list ys)) Q := wl_of (show (if xs.length + ys.length ≤ line then some (xs ++ ys) else none) = _ from if_pos h) q
theorem wl_addDL {xs ys : List D} (h : xs.length + ys.length ≤ 16777216) (q : Q (.list (xs ++ ys))) : wl (addD (.list xs) (.list ys)) Q := wl_of (by
    show (addL (.list xs) (.list ys)).map PyData.list = _
    rw [show addL (.list xs) (.list ys) = some (xs ++ ys) from if_pos h]; rfl) q
theorem wl_enumt {m : Nat} {f : Nat → Int} {Q : List D → Prop} (q : Q ((List.range m).map fun (i : Nat) => PyData.tuple [.int (i : Int), .int (f i)])) : wl (enumD [.tuple (vec m f)]) Q := wl_of enum_vec q
theorem wl_ziptt {b : Bool} {m : Nat} {f g : Nat → Int} {Q : List D → Prop} (q : Q ((List.range m).map fun (i : Nat) => PyData.tuple [.int (f i), .int (g i)])) : wl (zipD b [.tuple (vec m f), .tuple (vec m g)]) Q := wl_of zip_vec q
theorem wl_zip3 {m : Nat} {f g h : Nat → Int} {Q : List D → Prop} (q : Q ((List.range m).map fun (i : Nat) => PyData.tuple [.int (f i), .int (g i), .int (h i)])) : wl (zip3D [.tuple (vec m f), .tuple (vec m g), .tuple (vec m h)]) Q := wl_of zip3_vec q
end
section
variable {Q : Bool → Prop}
theorem wl_is_int_none  (q : Q false) : wl (isD "int" .none) Q := wl_of (by decide +kernel : kitB "NoneType" "int" = some false) q
theorem wl_is_int_bool {x : Bool} (q : Q true) : wl (isD "int" (.bool x)) Q := wl_of (by decide +kernel : kitB "bool" "int" = some true) q
theorem wl_is_int_int {x : Int} (q : Q true) : wl (isD "int" (.int x)) Q := wl_of (by decide +kernel : kitB "int" "int" = some true) q
theorem wl_is_int_str {x : Str} (q : Q false) : wl (isD "int" (.str x)) Q := wl_of (by decide +kernel : kitB "str" "int" = some false) q
theorem wl_is_int_list {x : List D} (q : Q false) : wl (isD "int" (.list x)) Q := wl_of (by decide +kernel : kitB "list" "int" = some false) q
theorem wl_is_int_tuple {x : List D} (q : Q false) : wl (isD "int" (.tuple x)) Q := wl_of (by decide +kernel : kitB "tuple" "int" = some false) q
theorem wl_is_int_dict {x : List (D × D)} (q : Q false) : wl (isD "int" (.dict x)) Q := wl_of (by decide +kernel : kitB "dict" "int" = some false) q
theorem wl_is_bool_none  (q : Q false) : wl (isD "bool" .none) Q := wl_of (by decide +kernel : kitB "NoneType" "bool" = some false) q
theorem wl_is_bool_bool {x : Bool} (q : Q true) : wl (isD "bool" (.bool x)) Q := wl_of (by decide +kernel : kitB "bool" "bool" = some true) q
theorem wl_is_bool_int {x : Int} (q : Q false) : wl (isD "bool" (.int x)) Q := wl_of (by decide +kernel : kitB "int" "bool" = some false) q
theorem wl_is_bool_str {x : Str} (q : Q false) : wl (isD "bool" (.str x)) Q := wl_of (by decide +kernel : kitB "str" "bool" = some false) q
theorem wl_is_bool_list {x : List D} (q : Q false) : wl (isD "bool" (.list x)) Q := wl_of (by decide +kernel : kitB "list" "bool" = some false) q
theorem wl_is_bool_tuple {x : List D} (q : Q false) : wl (isD "bool" (.tuple x)) Q := wl_of (by decide +kernel : kitB "tuple" "bool" = some false) q
theorem wl_is_bool_dict {x : List (D × D)} (q : Q false) : wl (isD "bool" (.dict x)) Q := wl_of (by decide +kernel : kitB "dict" "bool" = some false) q
theorem wl_is_tuple_none  (q : Q false) : wl (isD "tuple" .none) Q := wl_of (by decide +kernel : kitB "NoneType" "tuple" = some false) q
theorem wl_is_tuple_bool {x : Bool} (q : Q false) : wl (isD "tuple" (.bool x)) Q := wl_of (by decide +kernel : kitB "bool" "tuple" = some false) q
theorem wl_is_tuple_int {x : Int} (q : Q false) : wl (isD "tuple" (.int x)) Q := wl_of (by decide +kernel : kitB "int" "tuple" = some false) q
theorem wl_is_tuple_str {x : Str} (q : Q false) : wl (isD "tuple" (.str x)) Q := wl_of (by decide +kernel : kitB "str" "tuple" = some false) q
theorem wl_is_tuple_list {x : List D} (q : Q false) : wl (isD "tuple" (.list x)) Q := wl_of (by decide +kernel : kitB "list" "tuple" = some false) q
theorem wl_is_tuple_tuple {x : List D} (q : Q true) : wl (isD "tuple" (.tuple x)) Q := wl_of (by decide +kernel : kitB "tuple" "tuple" = some true) q
theorem wl_is_tuple_dict {x : List (D × D)} (q : Q false) : wl (isD "tuple" (.dict x)) Q := wl_of (by decide +kernel : kitB "dict" "tuple" = some false) q
theorem wl_is_list_none  (q : Q false) : wl (isD "list" .none) Q := wl_of (by decide +kernel : kitB "NoneType" "list" = some false) q
theorem wl_is_list_bool {x : Bool} (q : Q false) : wl (isD "list" (.bool x)) Q := wl_of (by decide +kernel : kitB "bool" "list" = some false) q
theorem wl_is_list_int {x : Int} (q : Q false) : wl (isD "list" (.int x)) Q := wl_of (by decide +kernel : kitB "int" "list" = some false) q
theorem wl_is_list_str {x : Str} (q : Q false) : wl (isD "list" (.str x)) Q := wl_of (by decide +kernel : kitB "str" "list" = some false) q
theorem wl_is_list_list {x : List D} (q : Q true) : wl (isD "list" (.list x)) Q := wl_of (by decide +kernel : kitB "list" "list" = some true) q
theorem wl_is_list_tuple {x : List D} (q : Q false) : wl (isD "list" (.tuple x)) Q := wl_of (by decide +kernel : kitB "tuple" "list" = some false) q
theorem wl_is_list_dict {x : List (D × D)} (q : Q false) : wl (isD "list" (.dict x)) Q := wl_of (by decide +kernel : kitB "dict" "list" = some false) q
theorem wl_is_str_none  (q : Q false) : wl (isD "str" .none) Q := wl_of (by decide +kernel : kitB "NoneType" "str" = some false) q
theorem wl_is_str_bool {x : Bool} (q : Q false) : wl (isD "str" (.bool x)) Q := wl_of (by decide +kernel : kitB "bool" "str" = some false) q
theorem wl_is_str_int {x : Int} (q : Q false) : wl (isD "str" (.int x)) Q := wl_of (by decide +kernel : kitB "int" "str" = some false) q
theorem wl_is_str_str {x : Str} (q : Q true) : wl (isD "str" (.str x)) Q := wl_of (by decide +kernel : kitB "str" "str" = some true) q
theorem wl_is_str_list {x : List D} (q : Q false) : wl (isD "str" (.list x)) Q := wl_of (by decide +kernel : kitB "list" "str" = some false) q
theorem wl_is_str_tuple {x : List D} (q : Q false) : wl (isD "str" (.tuple x)) Q := wl_of (by decide +kernel : kitB "tuple" "str" = some false) q
theorem wl_is_str_dict {x : List (D × D)} (q : Q false) : wl (isD "str" (.dict x)) Q := wl_of (by decide +kernel : kitB "dict" "str" = some false) q
end
end
end DL.G
set_option Elab.async false
set_option linter.all false
set_option maxRecDepth 100000
set_option maxHeartbeats 4000000
/-! K46B: what is a signed map; drawn ones. -/
namespace DL.G
open PySem PySem.Spec L2 DL
open PyProof.Rows hiding St
local macro_rules | `(tactic| array_get_dec) => `(tactic| first
  | with_reducible refine wp_Do ?_
  | ((with_reducible apply wp_Slot); · exact rfl)
  | with_reducible refine wp_C ?_
  | with_reducible refine wp_Cons ?_
  | with_reducible refine wp_Op2 ?_
  | with_reducible refine wrd_d ?_
  | ((with_reducible apply wrd_v); · exact rfl)
  | ((with_reducible apply wrd_l); · exact rfl)
  | ((with_reducible apply wrd_k); · exact rfl)
  | with_reducible refine wp_N ?_
  | with_reducible refine wrs_cons ?_
  | with_reducible refine wrs_nil ?_
  | with_reducible refine wp_nil ?_
  | ((with_reducible apply wp_Var); · exact rfl)
  | with_reducible refine wp_Call ?_
  | with_reducible refine wres_d ?_
  | ((with_reducible apply wres_v); · exact rfl)
  | ((with_reducible apply wres_s); · exact rfl)
  | ((with_reducible apply wres_l); · exact rfl)
  | ((with_reducible apply wres_k); · exact rfl)
  | with_reducible refine wres_nil ?_
  | with_reducible refine wset_0 ?_
  | with_reducible refine wset_s ?_
  | with_reducible refine kSeq_nx ?_
  | with_reducible refine kSeq_rt ?_
  | with_reducible refine kRt_rt ?_
  | with_reducible refine wp_Seq ?_
  | with_reducible refine wp_Set ?_
  | with_reducible refine wp_SetL ?_
  | with_reducible refine wp_Ret ?_
  | with_reducible refine wp_Drop ?_
  | with_reducible refine wp_If ?_
  | with_reducible refine wb_t ?_
  | with_reducible refine wb_f ?_
  | with_reducible refine wb_T ?_
  | with_reducible refine wb_F ?_
  | with_reducible refine wb_nt ?_
  | with_reducible refine wb_nf ?_
  | with_reducible refine wp_B ?_
  | with_reducible refine wp_bol ?_
  | with_reducible refine wp_And ?_
  | with_reducible refine wp_Or ?_
  | with_reducible refine wp_Not ?_
  | with_reducible refine wp_AndV ?_
  | with_reducible refine wp_OrV ?_
  | with_reducible refine wp_NotV ?_
  | with_reducible refine wp_Neg ?_
  | with_reducible refine wp_Isi ?_
  | with_reducible refine wp_Part ?_
  | with_reducible refine wp_intM ?_
  | with_reducible refine wp_Sl ?_
  | with_reducible refine wp_SlL ?_
  | with_reducible refine wp_listM ?_
  | (with_reducible refine wp_Tup ?_)
  | (with_reducible refine wp_Lst ?_)
  | with_reducible refine wp_List ?_
  | with_reducible refine wp_Fr2 ?_
  | with_reducible refine wp_FrN ?_
  | with_reducible refine wp_ret ?_
  | with_reducible refine wg_Set ?_
  | with_reducible refine wgs_nil ?_
  | with_reducible refine wgs_cons ?_
  | ((with_reducible apply wg_tupT); · exact rfl)
  | ((with_reducible apply wg_tupL); · exact rfl)
  | with_reducible refine wp_Asg ?_
  | with_reducible refine wz_nil ?_
  | with_reducible refine wz_V ?_
  | with_reducible refine wz_L ?_
  | with_reducible refine wp_AsgT ?_
  | with_reducible refine wp_ConsV ?_
  | with_reducible refine wp_ConsL ?_
  | with_reducible refine wsets_nil ?_
  | with_reducible refine wsets_cons ?_
  | with_reducible refine wp_Par ?_
  | with_reducible refine wp_skp ?_
  | ((with_reducible apply wp_Rel); · exact rfl)
  | with_reducible refine wp_SeqI ?_
  | with_reducible refine wp_seqL ?_
  | with_reducible refine wp_seqT ?_
  | with_reducible refine wp_It ?_
  | with_reducible refine wp_Lrg1 ?_
  | with_reducible refine wp_Lrg2 ?_
  | with_reducible refine wp_Trg1 ?_
  | with_reducible refine wp_For ?_
  | with_reducible refine wp_Lc ?_
  | with_reducible refine wp_bnd ?_
  | with_reducible refine kFor_nx ?_
  | with_reducible refine kFor_ct ?_
  | with_reducible refine kFor_bk ?_
  | with_reducible refine kFor_rt ?_
  | with_reducible refine wl_ix0t ?_
  | with_reducible refine wl_ix1t ?_
  | with_reducible refine wl_ix2t ?_
  | with_reducible refine wl_ix0l ?_
  | with_reducible refine wl_ix1l ?_
  | with_reducible refine wl_add ?_
  | with_reducible refine wl_sub ?_
  | with_reducible refine wl_neg ?_
  | with_reducible refine wl_lt ?_
  | with_reducible refine wl_le ?_
  | with_reducible refine wl_gt ?_
  | with_reducible refine wl_ge ?_
  | with_reducible refine wl_eqI ?_
  | with_reducible refine wl_neI ?_
  | with_reducible refine wl_neStr ?_
  | with_reducible refine wl_lenlv ?_
  | with_reducible refine wl_lentv ?_
  | with_reducible refine wl_lenl ?_
  | with_reducible refine wl_lent ?_
  | with_reducible refine wl_tupl ?_
  | with_reducible refine wl_tupt ?_
  | with_reducible refine wl_listl ?_
  | with_reducible refine wl_listt ?_
  | with_reducible refine wl_max2 ?_
  | with_reducible refine wl_min2 ?_
  | with_reducible refine wl_abs ?_
  | with_reducible refine wl_int ?_
  | with_reducible refine wl_enumt ?_
  | with_reducible refine wl_ziptt ?_
  | with_reducible refine wl_zip3 ?_
  | ((with_reducible apply wl_ixvt); · first | assumption | omega)
  | ((with_reducible apply wl_ixvl); · first | assumption | omega)
  | ((with_reducible apply wl_repT); · first | assumption | omega)
  | ((with_reducible apply wl_repL); · first | assumption | omega)
  | ((with_reducible apply wl_rg1); · first | assumption | omega)
  | ((with_reducible apply wp_rng1); · first | assumption | omega)
  | ((with_reducible apply wsl_of); · exact rfl)
  | ((with_reducible apply wol_of); · exact rfl)
  | with_reducible refine wp_OwnL ?_
  | with_reducible refine wp_SetI ?_
  | with_reducible refine wp_AugI ?_
  | with_reducible refine wp_Aug ?_
  | with_reducible refine wp_Met ?_
  | with_reducible refine wl_oAdd ?_
  | with_reducible refine wl_oSub ?_
  | ((with_reducible apply wl_append); · first | exact Nat.le_of_ble_eq_true rfl | (simp; done) | (simp; omega))
  | ((with_reducible apply wl_extend); · first | exact Nat.le_of_ble_eq_true rfl | (simp; done) | (simp; omega))
  | ((with_reducible apply wl_setV); · first | assumption | omega)
  | ((with_reducible apply wl_getV); · first | assumption | omega)
  | ((with_reducible apply le_and); · first | exact Nat.le_of_ble_eq_true rfl | (simp; done) | (simp; omega))
  | ((with_reducible apply wl_addT); · first | exact Nat.le_of_ble_eq_true rfl | (simp; done) | (simp; omega))
  | ((with_reducible apply wl_addLL); · first | exact Nat.le_of_ble_eq_true rfl | (simp; done) | (simp; omega))
  | ((with_reducible apply wl_addDL); · first | exact Nat.le_of_ble_eq_true rfl | (simp; done) | (simp; omega))
  | (dsimp only [restE, wipeE, keepV, List.set_cons_zero, List.set_cons_succ, List.getElem?_cons_zero, List.getElem?_cons_succ])
  | (refine And.intro rfl ?_)
  | with_reducible refine wl_is_int_none ?_
  | with_reducible refine wl_is_int_bool ?_
  | with_reducible refine wl_is_int_int ?_
  | with_reducible refine wl_is_int_str ?_
  | with_reducible refine wl_is_int_list ?_
  | with_reducible refine wl_is_int_tuple ?_
  | with_reducible refine wl_is_int_dict ?_
  | with_reducible refine wl_is_bool_none ?_
  | with_reducible refine wl_is_bool_bool ?_
  | with_reducible refine wl_is_bool_int ?_
  | with_reducible refine wl_is_bool_str ?_
  | with_reducible refine wl_is_bool_list ?_
  | with_reducible refine wl_is_bool_tuple ?_
  | with_reducible refine wl_is_bool_dict ?_
  | with_reducible refine wl_is_tuple_none ?_
  | with_reducible refine wl_is_tuple_bool ?_
  | with_reducible refine wl_is_tuple_int ?_
  | with_reducible refine wl_is_tuple_str ?_
  | with_reducible refine wl_is_tuple_list ?_
  | with_reducible refine wl_is_tuple_tuple ?_
  | with_reducible refine wl_is_tuple_dict ?_
  | with_reducible refine wl_is_list_none ?_
  | with_reducible refine wl_is_list_bool ?_
  | with_reducible refine wl_is_list_int ?_
  | with_reducible refine wl_is_list_str ?_
  | with_reducible refine wl_is_list_list ?_
  | with_reducible refine wl_is_list_tuple ?_
  | with_reducible refine wl_is_list_dict ?_
  | with_reducible refine wl_is_str_none ?_
  | with_reducible refine wl_is_str_bool ?_
  | with_reducible refine wl_is_str_int ?_
  | with_reducible refine wl_is_str_str ?_
  | with_reducible refine wl_is_str_list ?_
  | with_reducible refine wl_is_str_tuple ?_
  | with_reducible refine wl_is_str_dict ?_)
def wrow (m : Nat) : D → Bool
  | .tuple ds => decide ((ds.length : Int) = (m : Int)) && ds.all whole
  | _ => false
theorem boolsD_map {f : D → Bool} (ds : List D) : boolsD (ds.map fun d => PyData.bool (f d)) = some (ds.map f) := by
  induction ds with
  | nil => rfl
  | cons d ds ih => rw [List.map_cons, boolsD, ih]; rfl
theorem wl_allM {f : D → Bool} {ds : List D} {Q : D → Prop} (q : Q (.bool (ds.all f))) : wl (allN [.list (ds.map fun d => PyData.bool (f d))]) Q := wl_of (by
  show (boolsD _).map _ = _
  rw [boolsD_map]
  simp) q
theorem is_whole_row_spec {m : Nat} {v : D} (hv : ∀ ds, v = .tuple ds → ds.length ≤ 16777216) (st : Src) : phi_is_whole_row [.d (.int (m : Int)), .d v] st = some (.bool (wrow m v), st) := by
  refine wφ_eq ?_
  refine wφ_fn ?_
  show wp g_is_whole_row [some (.v (.int (m : Int))), some (.v v), none] st _
  unfold g_is_whole_row
  cases v with
  | tuple ds =>
    repeat array_get_dec
    refine wb_i (fun h => ?_) fun h => ?_
    · repeat array_get_dec
      refine ⟨hv _ rfl, ?_⟩
      refine wc_map (fun d => .bool (whole d)) (fun x hx => ?_) ?_
      · repeat array_get_dec
        refine wφ_of (is_whole_spec _ _) ?_
        repeat array_get_dec
      · repeat array_get_dec
        refine wl_allM ?_
        repeat array_get_dec
        exact ⟨by unfold wrow; simp [h], rfl⟩
    · repeat array_get_dec
      exact ⟨by unfold wrow; simp [h], rfl⟩
  | _ => repeat array_get_dec
def int1 : D → Int
  | .int i => i
  | _ => 0
theorem intsD_whole : ∀ {ds : List D}, ds.all whole = true → intsD ds = some (ds.map int1)
  | [], _ => rfl
  | d :: ds, h => by
    rw [List.all_cons, Bool.and_eq_true] at h
    cases d with
    | int i => rw [intsD, intsD_whole h.2]; rfl
    | _ => exact nomatch h.1
theorem whole_int {d : D} (h : whole d = true) : ∃ i, d = .int i := by
  cases d with
  | int i => exact ⟨i, rfl⟩
  | _ => exact nomatch h
theorem shp_ints {ds : List D} (h : ∀ d ∈ ds, whole d = true) : shp (.list ds) = true ∧ shp (.tuple ds) = true := shp_of fun d hd => by
  obtain ⟨i, rfl⟩ := whole_int (h d hd)
  exact ⟨rfl, by rw [PyData.depth]; omega⟩
def pm1 (d : D) : Bool := decide (int1 d = 1) || decide (int1 d = -1)
theorem wl_pm {neg : Bool} {d : D} {Q : D → Prop} (h : whole d = true) (q : Q (.bool (if neg then !pm1 d else pm1 d))) : wl (inD neg d (.tuple [.int 1, .int (-1)])) Q := wl_of (by
  obtain ⟨i, rfl⟩ := whole_int h
  have : ([PyData.int 1, PyData.int (-1)].any fun z => PyData.eqv z (.int i)) = pm1 (.int i) := by
    simp only [List.any_cons, List.any_nil, eqvI, Bool.or_false]
    unfold pm1 int1
    congr 1 <;> rw [Bool.eq_iff_iff] <;> simp <;> omega
  show (if (shp (.int i) && shp (.tuple [.int 1, .int (-1)])) = true then some (PyData.bool (if neg then !([PyData.int 1, PyData.int (-1)].any fun z => PyData.eqv z (.int i)) else [PyData.int 1, PyData.int (-1)].any fun z => PyData.eqv z (.int i))) else none) = _
  have h2 : shp (.tuple [.int 1, .int (-1)]) = true := by decide +kernel
  rw [shp_int, h2, if_pos (by rfl), this]) q
/-- the least ones first, and all of 0 .. m - 1 -/
def perm0 (m : Nat) (ds : List D) : Bool := PyData.eqv (.list ((sortI (ds.map int1)).map PyData.int)) (.list (vec m fun i => (i : Int)))
def sgn (m : Nat) : D → Bool
  | .tuple [a, b] => wrow m a && wrow m b && (match a, b with
    | .tuple xs, .tuple ys => perm0 m xs && ys.all pm1
    | _, _ => false)
  | _ => false
theorem wl_sortT {ds : List D} {Q : List D → Prop} (h : ds.all whole = true) (q : Q ((sortI (ds.map int1)).map PyData.int)) : wl (sortedN [.tuple ds]) Q := wl_of (by
  show (intsD ds).map _ = _
  rw [intsD_whole h]; rfl) q
theorem wrow_t {m : Nat} {v : D} (h : wrow m v = true) : ∃ ds, v = .tuple ds ∧ ds.length = m ∧ ds.all whole = true := by
  cases v with
  | tuple ds =>
    unfold wrow at h
    rw [Bool.and_eq_true, decide_eq_true_eq] at h
    exact ⟨ds, rfl, by omega, h.2⟩
  | _ => exact nomatch h
/-- fit to be asked -/
structure Fit (v : D) : Prop where
  a : ∀ ds, v = .tuple ds → ds.length ≤ 16777216
  b : ∀ ds, v = .tuple ds → ∀ d ∈ ds, ∀ es, d = .tuple es → es.length ≤ 16777216 ∧ ∀ x ∈ es, x.plain = true ∧ x.depth ≤ 62
theorem whole_map {is : List Int} : ∀ d ∈ is.map PyData.int, whole d = true := by
  intro d hd
  obtain ⟨i, _, rfl⟩ := List.mem_map.mp hd
  rfl
theorem vec_whole {m : Nat} {f : Nat → Int} : ∀ d ∈ vec m f, whole d = true := by
  intro d hd
  obtain ⟨i, _, rfl⟩ := vec_mem hd
  rfl
theorem is_signed_map_spec {m : Nat} {v : D} (hm : m ≤ 16777216) (hv : Fit v) (st : Src) : phi_is_signed_map [.d (.int (m : Int)), .d v] st = some (.bool (sgn m v), st) := by
  refine wφ_eq ?_
  refine wφ_fn ?_
  show wp g_is_signed_map [some (.v (.int (m : Int))), some (.v v), none, none] st _
  unfold g_is_signed_map
  cases v with
  | tuple ds =>
    repeat array_get_dec
    refine wb_n (fun h => ?_) fun h => ?_
    · repeat array_get_dec
      refine ⟨?_, rfl⟩
      unfold sgn
      split
      · exact absurd (by rename_i h2; injection h2 with h2; rw [h2]; rfl) h
      · rfl
    · match ds, h with
      | [a, b], _ =>
        repeat array_get_dec
        refine wc_map (fun d => .bool (wrow m d)) (fun x hx => ?_) ?_
        · unfold is_signed_map_e1
          repeat array_get_dec
          refine wφ_of (is_whole_row_spec (fun es he => (hv.b _ rfl x hx es he).1) _) ?_
          repeat array_get_dec
        · repeat array_get_dec
          refine wl_allM ?_
          repeat array_get_dec
          cases h1 : wrow m a <;> cases h2 : wrow m b <;> simp only [List.all_cons, List.all_nil, h1, h2, Bool.and_true, Bool.and_false, Bool.false_and, Bool.not_true, Bool.not_false]
          · repeat array_get_dec
            exact ⟨by simp [sgn, h1], rfl⟩
          · repeat array_get_dec
            exact ⟨by simp [sgn, h1], rfl⟩
          · repeat array_get_dec
            exact ⟨by simp [sgn, h1, h2], rfl⟩
          · obtain ⟨xs, rfl, hx, hx2⟩ := wrow_t h1
            obtain ⟨ys, rfl, hy, hy2⟩ := wrow_t h2
            repeat array_get_dec
            refine wl_sortT hx2 ?_
            repeat array_get_dec
            refine wl_eq (shp_ints whole_map).1 (shp_ints vec_whole).1 ?_
            repeat array_get_dec
            refine ⟨fun h3 => ?_, fun h3 => ?_⟩
            · repeat array_get_dec
              refine ⟨by omega, ?_⟩
              refine wc_map (fun d => .bool (pm1 d)) (fun y hy3 => ?_) ?_
              · unfold is_signed_map_e2
                repeat array_get_dec
                refine wl_pm (List.all_eq_true.mp hy2 y hy3) ?_
                repeat array_get_dec
              · repeat array_get_dec
                refine wl_allM ?_
                repeat array_get_dec
                refine ⟨?_, rfl⟩
                show _ = PyData.bool (sgn m (.tuple [.tuple xs, .tuple ys]))
                simp [sgn, h1, h2, perm0, h3]
            · repeat array_get_dec
              refine ⟨?_, rfl⟩
              show _ = PyData.bool (sgn m (.tuple [.tuple xs, .tuple ys]))
              simp [sgn, h1, h2, perm0, h3]
      | [], h => exact absurd h (by simp)
      | [_], h => exact absurd h (by simp)
      | _ :: _ :: _ :: _, h => exact absurd h (by simp; omega)
  | _ => repeat array_get_dec
end DL.G
set_option Elab.async false
set_option linter.all false
set_option maxRecDepth 100000
set_option maxHeartbeats 4000000
/-! K46C: _law_is_signed; drawn signed maps. -/
namespace DL.G
open PySem PySem.Spec L2 DL
open PyProof.Rows hiding St
local macro_rules | `(tactic| array_get_dec) => `(tactic| first
  | with_reducible refine wp_Do ?_
  | ((with_reducible apply wp_Slot); · exact rfl)
  | with_reducible refine wp_C ?_
  | with_reducible refine wp_Cons ?_
  | with_reducible refine wp_Op2 ?_
  | with_reducible refine wrd_d ?_
  | ((with_reducible apply wrd_v); · exact rfl)
  | ((with_reducible apply wrd_l); · exact rfl)
  | ((with_reducible apply wrd_k); · exact rfl)
  | with_reducible refine wp_N ?_
  | with_reducible refine wrs_cons ?_
  | with_reducible refine wrs_nil ?_
  | with_reducible refine wp_nil ?_
  | ((with_reducible apply wp_Var); · exact rfl)
  | with_reducible refine wp_Call ?_
  | with_reducible refine wres_d ?_
  | ((with_reducible apply wres_v); · exact rfl)
  | ((with_reducible apply wres_s); · exact rfl)
  | ((with_reducible apply wres_l); · exact rfl)
  | ((with_reducible apply wres_k); · exact rfl)
  | with_reducible refine wres_nil ?_
  | with_reducible refine wset_0 ?_
  | with_reducible refine wset_s ?_
  | with_reducible refine kSeq_nx ?_
  | with_reducible refine kSeq_rt ?_
  | with_reducible refine kRt_rt ?_
  | with_reducible refine wp_Seq ?_
  | with_reducible refine wp_Set ?_
  | with_reducible refine wp_SetL ?_
  | with_reducible refine wp_Ret ?_
  | with_reducible refine wp_Drop ?_
  | with_reducible refine wp_If ?_
  | with_reducible refine wb_t ?_
  | with_reducible refine wb_f ?_
  | with_reducible refine wb_T ?_
  | with_reducible refine wb_F ?_
  | with_reducible refine wb_nt ?_
  | with_reducible refine wb_nf ?_
  | with_reducible refine wp_B ?_
  | with_reducible refine wp_bol ?_
  | with_reducible refine wp_And ?_
  | with_reducible refine wp_Or ?_
  | with_reducible refine wp_Not ?_
  | with_reducible refine wp_AndV ?_
  | with_reducible refine wp_OrV ?_
  | with_reducible refine wp_NotV ?_
  | with_reducible refine wp_Neg ?_
  | with_reducible refine wp_Isi ?_
  | with_reducible refine wp_Part ?_
  | with_reducible refine wp_intM ?_
  | with_reducible refine wp_Sl ?_
  | with_reducible refine wp_SlL ?_
  | with_reducible refine wp_listM ?_
  | (with_reducible refine wp_Tup ?_)
  | (with_reducible refine wp_Lst ?_)
  | with_reducible refine wp_List ?_
  | with_reducible refine wp_Fr2 ?_
  | with_reducible refine wp_FrN ?_
  | with_reducible refine wp_ret ?_
  | with_reducible refine wg_Set ?_
  | with_reducible refine wgs_nil ?_
  | with_reducible refine wgs_cons ?_
  | ((with_reducible apply wg_tupT); · exact rfl)
  | ((with_reducible apply wg_tupL); · exact rfl)
  | with_reducible refine wp_Asg ?_
  | with_reducible refine wz_nil ?_
  | with_reducible refine wz_V ?_
  | with_reducible refine wz_L ?_
  | with_reducible refine wp_AsgT ?_
  | with_reducible refine wp_ConsV ?_
  | with_reducible refine wp_ConsL ?_
  | with_reducible refine wsets_nil ?_
  | with_reducible refine wsets_cons ?_
  | with_reducible refine wp_Par ?_
  | with_reducible refine wp_skp ?_
  | ((with_reducible apply wp_Rel); · exact rfl)
  | with_reducible refine wp_SeqI ?_
  | with_reducible refine wp_seqL ?_
  | with_reducible refine wp_seqT ?_
  | with_reducible refine wp_It ?_
  | with_reducible refine wp_Lrg1 ?_
  | with_reducible refine wp_Lrg2 ?_
  | with_reducible refine wp_Trg1 ?_
  | with_reducible refine wp_For ?_
  | with_reducible refine wp_Lc ?_
  | with_reducible refine wp_bnd ?_
  | with_reducible refine kFor_nx ?_
  | with_reducible refine kFor_ct ?_
  | with_reducible refine kFor_bk ?_
  | with_reducible refine kFor_rt ?_
  | with_reducible refine wl_ix0t ?_
  | with_reducible refine wl_ix1t ?_
  | with_reducible refine wl_ix2t ?_
  | with_reducible refine wl_ix0l ?_
  | with_reducible refine wl_ix1l ?_
  | with_reducible refine wl_add ?_
  | with_reducible refine wl_sub ?_
  | with_reducible refine wl_neg ?_
  | with_reducible refine wl_lt ?_
  | with_reducible refine wl_le ?_
  | with_reducible refine wl_gt ?_
  | with_reducible refine wl_ge ?_
  | with_reducible refine wl_eqI ?_
  | with_reducible refine wl_neI ?_
  | with_reducible refine wl_neStr ?_
  | with_reducible refine wl_lenlv ?_
  | with_reducible refine wl_lentv ?_
  | with_reducible refine wl_lenl ?_
  | with_reducible refine wl_lent ?_
  | with_reducible refine wl_tupl ?_
  | with_reducible refine wl_tupt ?_
  | with_reducible refine wl_listl ?_
  | with_reducible refine wl_listt ?_
  | with_reducible refine wl_max2 ?_
  | with_reducible refine wl_min2 ?_
  | with_reducible refine wl_abs ?_
  | with_reducible refine wl_int ?_
  | with_reducible refine wl_enumt ?_
  | with_reducible refine wl_ziptt ?_
  | with_reducible refine wl_zip3 ?_
  | ((with_reducible apply wl_ixvt); · first | assumption | omega)
  | ((with_reducible apply wl_ixvl); · first | assumption | omega)
  | ((with_reducible apply wl_repT); · first | assumption | omega)
  | ((with_reducible apply wl_repL); · first | assumption | omega)
  | ((with_reducible apply wl_rg1); · first | assumption | omega)
  | ((with_reducible apply wp_rng1); · first | assumption | omega)
  | ((with_reducible apply wsl_of); · exact rfl)
  | ((with_reducible apply wol_of); · exact rfl)
  | with_reducible refine wp_OwnL ?_
  | with_reducible refine wp_SetI ?_
  | with_reducible refine wp_AugI ?_
  | with_reducible refine wp_Aug ?_
  | with_reducible refine wp_Met ?_
  | with_reducible refine wl_oAdd ?_
  | with_reducible refine wl_oSub ?_
  | ((with_reducible apply wl_append); · first | exact Nat.le_of_ble_eq_true rfl | (simp; done) | (simp; omega))
  | ((with_reducible apply wl_extend); · first | exact Nat.le_of_ble_eq_true rfl | (simp; done) | (simp; omega))
  | ((with_reducible apply wl_setV); · first | assumption | omega)
  | ((with_reducible apply wl_getV); · first | assumption | omega)
  | ((with_reducible apply le_and); · first | exact Nat.le_of_ble_eq_true rfl | (simp; done) | (simp; omega))
  | ((with_reducible apply wl_addT); · first | exact Nat.le_of_ble_eq_true rfl | (simp; done) | (simp; omega))
  | ((with_reducible apply wl_addLL); · first | exact Nat.le_of_ble_eq_true rfl | (simp; done) | (simp; omega))
  | ((with_reducible apply wl_addDL); · first | exact Nat.le_of_ble_eq_true rfl | (simp; done) | (simp; omega))
  | (dsimp only [restE, wipeE, keepV, List.set_cons_zero, List.set_cons_succ, List.getElem?_cons_zero, List.getElem?_cons_succ])
  | (refine And.intro rfl ?_)
  | with_reducible refine wl_is_int_none ?_
  | with_reducible refine wl_is_int_bool ?_
  | with_reducible refine wl_is_int_int ?_
  | with_reducible refine wl_is_int_str ?_
  | with_reducible refine wl_is_int_list ?_
  | with_reducible refine wl_is_int_tuple ?_
  | with_reducible refine wl_is_int_dict ?_
  | with_reducible refine wl_is_bool_none ?_
  | with_reducible refine wl_is_bool_bool ?_
  | with_reducible refine wl_is_bool_int ?_
  | with_reducible refine wl_is_bool_str ?_
  | with_reducible refine wl_is_bool_list ?_
  | with_reducible refine wl_is_bool_tuple ?_
  | with_reducible refine wl_is_bool_dict ?_
  | with_reducible refine wl_is_tuple_none ?_
  | with_reducible refine wl_is_tuple_bool ?_
  | with_reducible refine wl_is_tuple_int ?_
  | with_reducible refine wl_is_tuple_str ?_
  | with_reducible refine wl_is_tuple_list ?_
  | with_reducible refine wl_is_tuple_tuple ?_
  | with_reducible refine wl_is_tuple_dict ?_
  | with_reducible refine wl_is_list_none ?_
  | with_reducible refine wl_is_list_bool ?_
  | with_reducible refine wl_is_list_int ?_
  | with_reducible refine wl_is_list_str ?_
  | with_reducible refine wl_is_list_list ?_
  | with_reducible refine wl_is_list_tuple ?_
  | with_reducible refine wl_is_list_dict ?_
  | with_reducible refine wl_is_str_none ?_
  | with_reducible refine wl_is_str_bool ?_
  | with_reducible refine wl_is_str_int ?_
  | with_reducible refine wl_is_str_str ?_
  | with_reducible refine wl_is_str_list ?_
  | with_reducible refine wl_is_str_tuple ?_
  | with_reducible refine wl_is_str_dict ?_)
theorem filt_none {w : D → Bool} {ds : List D} : ((ds.filter fun d => !w d).isEmpty) = ds.all w := by
  induction ds with
  | nil => rfl
  | cons d ds ih =>
    rw [List.filter_cons, List.all_cons]
    cases h : w d <;> simp [h]
    simpa using ih
theorem eqv_nil {ds : List D} : PyData.eqv (.list ds) (.list []) = ds.isEmpty := by
  cases ds <;> simp [PyData.eqv, PyData.eqvAll]
theorem shp_sub {ds : List D} (h : ∀ x ∈ ds, x.plain = true ∧ x.depth ≤ 63) {w : D → Bool} : shp (.list (ds.filter w)) = true := (shp_of fun d hd => h d (List.mem_filter.mp hd).1).1
theorem law_is_signed_b {m : Nat} {v one : D} (st : Src) (h : ∀ es, one = .tuple es → es.length ≤ 16777216 ∧ ∀ x ∈ es, x.plain = true ∧ x.depth ≤ 62) {P : Fl → DEnv → Src → Prop}
    (q : P (if wrow m one then .nx else .rt (.bool false)) [some (.v (.int (m : Int))), some (.v v), some (.v one), none] st) :
    wp law_is_signed_b1 [some (.v (.int (m : Int))), some (.v v), some (.v one), none] st P := by
  unfold law_is_signed_b1
  cases one with
  | tuple ds =>
    obtain ⟨h1, h2⟩ := h _ rfl
    repeat array_get_dec
    refine wb_n (fun hn => ?_) fun hn => ?_
    · repeat array_get_dec
      rw [show wrow m (.tuple ds) = false by unfold wrow; simp [hn]] at q
      exact q
    · repeat array_get_dec
      refine ⟨h1, ?_⟩
      refine wc_fil (fun d => !whole d) id (fun x hx => ?_) ?_
      · repeat array_get_dec
        refine wφ_of (law_whole_spec _ _) ?_
        repeat array_get_dec
        refine ⟨fun _ => ?_, fun _ => ?_⟩
        · repeat array_get_dec
        · repeat array_get_dec
      · repeat array_get_dec
        rw [List.map_id]
        refine wl_ne (shp_sub fun x hx => ⟨(h2 x hx).1, Nat.le_succ_of_le (h2 x hx).2⟩) (by decide +kernel) ?_
        repeat array_get_dec
        rw [eqv_nil, filt_none]
        have e : wrow m (.tuple ds) = ds.all whole := by unfold wrow; simp [hn]
        rw [e] at q
        cases h3 : ds.all whole
        · rw [h3] at q
          repeat array_get_dec
          exact q
        · rw [h3] at q
          repeat array_get_dec
          exact q
  | _ =>
    repeat array_get_dec
    exact q
theorem law_is_signed_spec {m : Nat} {v : D} (hm : m ≤ 16777216) (hv : Fit v) (st : Src) : phi_law_is_signed [.d (.int (m : Int)), .d v] st = some (.bool (sgn m v), st) := by
  refine wφ_eq ?_
  refine wφ_fn ?_
  show wp g_law_is_signed [some (.v (.int (m : Int))), some (.v v), none, none] st _
  unfold g_law_is_signed
  cases v with
  | tuple ds =>
    repeat array_get_dec
    refine wb_n (fun h => ?_) fun h => ?_
    · repeat array_get_dec
      refine ⟨?_, rfl⟩
      unfold sgn
      split
      · exact absurd (by rename_i h2; injection h2 with h2; rw [h2]; rfl) h
      · rfl
    · match ds, h with
      | [a, b], _ =>
        repeat array_get_dec
        refine wfor_cons ?_
        repeat array_get_dec
        refine law_is_signed_b st (fun es he => hv.b _ rfl a (by simp) es he) ?_
        cases h1 : wrow m a
        · simp only [Bool.false_eq_true, if_false]
          repeat array_get_dec
          exact ⟨by simp [sgn, h1], rfl⟩
        simp only [if_true]
        repeat array_get_dec
        refine wfor_cons ?_
        repeat array_get_dec
        refine law_is_signed_b st (fun es he => hv.b _ rfl b (by simp) es he) ?_
        cases h2 : wrow m b
        · simp only [Bool.false_eq_true, if_false]
          repeat array_get_dec
          exact ⟨by simp [sgn, h2], rfl⟩
        simp only [if_true]
        repeat array_get_dec
        refine wfor_nil ?_
        obtain ⟨xs, rfl, hx, hx2⟩ := wrow_t h1
        obtain ⟨ys, rfl, hy, hy2⟩ := wrow_t h2
        repeat array_get_dec
        refine wl_sortT hx2 ?_
        repeat array_get_dec
        refine wl_eq (shp_ints whole_map).1 (shp_ints vec_whole).1 ?_
        repeat array_get_dec
        refine ⟨fun h3 => ?_, fun h3 => ?_⟩
        · repeat array_get_dec
          refine ⟨by omega, ?_⟩
          refine wc_fil (fun d => !pm1 d) id (fun y hy3 => ?_) ?_
          · repeat array_get_dec
            refine wl_pm (List.all_eq_true.mp hy2 y hy3) ?_
            repeat array_get_dec
            refine ⟨fun _ => ?_, fun _ => ?_⟩
            · repeat array_get_dec
            · repeat array_get_dec
          · repeat array_get_dec
            rw [List.map_id]
            refine wl_eq (shp_sub fun x hx => ?_) (by decide +kernel) ?_
            · obtain ⟨i, rfl⟩ := whole_int (List.all_eq_true.mp hy2 x hx)
              exact ⟨rfl, by rw [PyData.depth]; omega⟩
            repeat array_get_dec
            refine ⟨?_, rfl⟩
            rw [eqv_nil, filt_none]
            show _ = PyData.bool (sgn m (.tuple [.tuple xs, .tuple ys]))
            simp [sgn, h1, h2, perm0, h3]
        · repeat array_get_dec
          refine ⟨?_, rfl⟩
          show _ = PyData.bool (sgn m (.tuple [.tuple xs, .tuple ys]))
          simp [sgn, h1, h2, perm0, h3]
      | [], h => exact absurd h (by simp)
      | [_], h => exact absurd h (by simp)
      | _ :: _ :: _ :: _, h => exact absurd h (by simp; omega)
  | _ => repeat array_get_dec
/-! drawn signed maps -/
theorem vec_inj {m : Nat} {f g : Nat → Int} (h : vec m f = vec m g) : ∀ i, i < m → f i = g i := fun i hi => by
  have := congrArg (fun l => l[i]?) h
  simp only [vec_get hi] at this
  injection this with this
  injection this
theorem perm_iv {m : Nat} {ds : List D} (h : ds.Perm (vec m fun i => (i : Int))) : ∃ p q, Iv m p q ∧ ds = vec m fun i => (p i : Int) := by
  have hl : ds.length = m := by have := h.length_eq; simpa using this
  have hn : ds.Nodup := by
    refine h.nodup_iff.mpr ?_
    unfold vec
    rw [List.nodup_iff_pairwise_ne, List.pairwise_map]
    refine List.Pairwise.imp ?_ (List.nodup_range (n := m))
    intro a b hab e
    have e : (a : Int) = (b : Int) := PyData.int.inj e
    exact hab (by omega)
  have ha : ∀ i, i < m → ∃ j, j < m ∧ ds[i]? = some (.int (j : Int)) := fun i hi => by
    have hm : ds[i]'(by omega) ∈ vec m fun i => (i : Int) := h.subset (List.getElem_mem _)
    obtain ⟨j, hj, e⟩ := vec_mem hm
    exact ⟨j, hj, by rw [List.getElem?_eq_getElem (by omega), e]⟩
  have hb : ∀ j, j < m → ∃ i, i < m ∧ ds[i]? = some (.int (j : Int)) := fun j hj => by
    have hm : PyData.int (j : Int) ∈ ds := h.symm.subset (List.mem_iff_getElem?.mpr ⟨j, vec_get hj⟩)
    obtain ⟨i, e⟩ := List.mem_iff_getElem?.mp hm
    refine ⟨i, ?_, e⟩
    have := (List.getElem?_eq_some_iff.mp e).1
    omega
  have hi : ∀ i j, i < m → j < m → ds[i]? = ds[j]? → i = j := fun i j h1 h2 e => by
    have := (List.getElem?_inj (by omega) hn).mp e
    exact this
  classical
  refine ⟨fun i => if h : i < m then (ha i h).choose else 0, fun j => if h : j < m then (hb j h).choose else 0, ⟨?_, ?_, ?_, ?_⟩, ?_⟩
  · intro i h1
    simp only [dif_pos h1]
    exact (ha i h1).choose_spec.1
  · intro i h1
    simp only [dif_pos h1]
    exact (hb i h1).choose_spec.1
  · intro i h1
    have h2 := (ha i h1).choose_spec
    simp only [dif_pos h1, dif_pos h2.1]
    have h3 := (hb _ h2.1).choose_spec
    exact hi _ _ h3.1 h1 (h3.2.trans h2.2.symm)
  · intro i h1
    have h2 := (hb i h1).choose_spec
    simp only [dif_pos h1, dif_pos h2.1]
    have h3 := (ha _ h2.1).choose_spec
    have := h3.2.symm.trans h2.2
    injection this with this
    injection this with this
    omega
  · refine vec_eq hl fun i h1 => ?_
    simp only [dif_pos h1]
    exact (ha i h1).choose_spec.2
theorem all2_vec {m : Nat} {F : Nat → D} {R : D → D → Prop} {P : Int → Prop} (hr : ∀ x y, R x y → ∃ r, y = .int r ∧ P r) {ys : List D} (h : All2 R ((List.range m).map F) ys) : ∃ f, ys = vec m f ∧ ∀ i, i < m → P (f i) := by
  have hl : ys.length = m := by have := h.length; simpa using this
  have ha : ∀ i, i < m → ∃ r, ys[i]? = some (.int r) ∧ P r := fun i hi => by
    obtain ⟨r, e, hp⟩ := h.right (P := fun y => ∃ r, y = .int r ∧ P r) (fun x y q => hr x y q) (ys[i]'(by omega)) (List.getElem_mem _)
    exact ⟨r, by rw [List.getElem?_eq_getElem (by omega), e], hp⟩
  classical
  refine ⟨fun i => if h : i < m then (ha i h).choose else 0, ?_, ?_⟩
  · refine vec_eq hl fun i h1 => ?_
    simp only [dif_pos h1]
    exact (ha i h1).choose_spec.1
  · intro i h1
    simp only [dif_pos h1]
    exact (ha i h1).choose_spec.2
theorem wφ_mixed {xs : List D} {st : Src} {Q : D → Src → Prop} (hl : xs.length ≤ 16777216) (hp : ∀ d ∈ xs, d.plain = true ∧ d.depth ≤ 63) (q : ∀ ys st', ys.Perm xs → Q (.list ys) st') : wφ phi_law_mixed [.s, .d (.list xs)] st Q := by
  obtain ⟨ys, st', h1, h2⟩ := mixed_spec st hl hp
  exact wφ_of h1 (q ys st' h2)
theorem wφ_signed {m : Nat} {st : Src} {Q : D → Src → Prop} (hm : m ≤ 16777216) (q : ∀ p q' s st', Iv m p q' → (∀ i, i < m → s i = 1 ∨ s i = -1) → Q (mp m p s) st') : wφ phi_law_signed [.s, .d (.int (m : Int))] st Q := by
  refine wφ_fn ?_
  show wp g_law_signed [some .s, some (.v (.int (m : Int))), none, none] st _
  unfold g_law_signed
  repeat array_get_dec
  refine wc_src (fun _ y => ∃ r, y = .int r ∧ (r = 1 ∨ r = -1)) (fun x hx st => ?_) (fun ys st' hy => ?_)
  · unfold law_signed_e1
    repeat array_get_dec
    refine wφ_pick (by decide +kernel) fun r st' h0 h1 => ?_
    repeat array_get_dec
    refine wl_mul (.inl (by decide)) ?_
    repeat array_get_dec
    exact ⟨⟨_, rfl, by omega⟩, rfl⟩
  · repeat array_get_dec
    refine wφ_mixed (by simpa using hm) (fun d hd => ?_) fun zs st2 hz => ?_
    · obtain ⟨i, _, rfl⟩ := vec_mem hd
      exact ⟨rfl, by rw [PyData.depth]; omega⟩
    · obtain ⟨p, q', hi, rfl⟩ := perm_iv hz
      obtain ⟨f, rfl, hf⟩ := all2_vec (fun _ _ h => h) hy
      repeat array_get_dec
      exact q p q' f st2 hi hf
end DL.G
set_option Elab.async false
set_option linter.all false
set_option maxRecDepth 100000
set_option maxHeartbeats 4000000
set_option pp.deepTerms false
set_option pp.deepTerms.threshold 5
/-! K46D: the law's lap. -/
namespace DL.G
open PySem PySem.Spec L2 DL
open PyProof.Rows hiding St
local macro_rules | `(tactic| array_get_dec) => `(tactic| first
  | with_reducible refine wp_Do ?_
  | ((with_reducible apply wp_Slot); · exact rfl)
  | with_reducible refine wp_C ?_
  | with_reducible refine wp_Cons ?_
  | with_reducible refine wp_Op2 ?_
  | with_reducible refine wrd_d ?_
  | ((with_reducible apply wrd_v); · exact rfl)
  | ((with_reducible apply wrd_l); · exact rfl)
  | ((with_reducible apply wrd_k); · exact rfl)
  | with_reducible refine wp_N ?_
  | with_reducible refine wrs_cons ?_
  | with_reducible refine wrs_nil ?_
  | with_reducible refine wp_nil ?_
  | ((with_reducible apply wp_Var); · exact rfl)
  | with_reducible refine wp_Call ?_
  | with_reducible refine wres_d ?_
  | ((with_reducible apply wres_v); · exact rfl)
  | ((with_reducible apply wres_s); · exact rfl)
  | ((with_reducible apply wres_l); · exact rfl)
  | ((with_reducible apply wres_k); · exact rfl)
  | with_reducible refine wres_nil ?_
  | with_reducible refine wset_0 ?_
  | with_reducible refine wset_s ?_
  | with_reducible refine kSeq_nx ?_
  | with_reducible refine kSeq_rt ?_
  | with_reducible refine kRt_rt ?_
  | with_reducible refine wp_Seq ?_
  | with_reducible refine wp_Set ?_
  | with_reducible refine wp_SetL ?_
  | with_reducible refine wp_Ret ?_
  | with_reducible refine wp_Drop ?_
  | with_reducible refine wp_If ?_
  | with_reducible refine wb_t ?_
  | with_reducible refine wb_f ?_
  | with_reducible refine wb_T ?_
  | with_reducible refine wb_F ?_
  | with_reducible refine wb_nt ?_
  | with_reducible refine wb_nf ?_
  | with_reducible refine wp_B ?_
  | with_reducible refine wp_bol ?_
  | with_reducible refine wp_And ?_
  | with_reducible refine wp_Or ?_
  | with_reducible refine wp_Not ?_
  | with_reducible refine wp_AndV ?_
  | with_reducible refine wp_OrV ?_
  | with_reducible refine wp_NotV ?_
  | with_reducible refine wp_Neg ?_
  | with_reducible refine wp_Isi ?_
  | with_reducible refine wp_Part ?_
  | with_reducible refine wp_intM ?_
  | with_reducible refine wp_Sl ?_
  | with_reducible refine wp_SlL ?_
  | with_reducible refine wp_listM ?_
  | (with_reducible refine wp_Tup ?_)
  | (with_reducible refine wp_Lst ?_)
  | with_reducible refine wp_List ?_
  | with_reducible refine wp_Fr2 ?_
  | with_reducible refine wp_FrN ?_
  | with_reducible refine wp_ret ?_
  | with_reducible refine wg_Set ?_
  | with_reducible refine wgs_nil ?_
  | with_reducible refine wgs_cons ?_
  | ((with_reducible apply wg_tupT); · exact rfl)
  | ((with_reducible apply wg_tupL); · exact rfl)
  | with_reducible refine wp_Asg ?_
  | with_reducible refine wz_nil ?_
  | with_reducible refine wz_V ?_
  | with_reducible refine wz_L ?_
  | with_reducible refine wp_AsgT ?_
  | with_reducible refine wp_ConsV ?_
  | with_reducible refine wp_ConsL ?_
  | with_reducible refine wsets_nil ?_
  | with_reducible refine wsets_cons ?_
  | with_reducible refine wp_Par ?_
  | with_reducible refine wp_skp ?_
  | ((with_reducible apply wp_Rel); · exact rfl)
  | with_reducible refine wp_SeqI ?_
  | with_reducible refine wp_seqL ?_
  | with_reducible refine wp_seqT ?_
  | with_reducible refine wp_It ?_
  | with_reducible refine wp_Lrg1 ?_
  | with_reducible refine wp_Lrg2 ?_
  | with_reducible refine wp_Trg1 ?_
  | with_reducible refine wp_For ?_
  | with_reducible refine wp_Lc ?_
  | with_reducible refine wp_bnd ?_
  | with_reducible refine kFor_nx ?_
  | with_reducible refine kFor_ct ?_
  | with_reducible refine kFor_bk ?_
  | with_reducible refine kFor_rt ?_
  | with_reducible refine wl_ix0t ?_
  | with_reducible refine wl_ix1t ?_
  | with_reducible refine wl_ix2t ?_
  | with_reducible refine wl_ix0l ?_
  | with_reducible refine wl_ix1l ?_
  | with_reducible refine wl_add ?_
  | with_reducible refine wl_sub ?_
  | with_reducible refine wl_neg ?_
  | with_reducible refine wl_lt ?_
  | with_reducible refine wl_le ?_
  | with_reducible refine wl_gt ?_
  | with_reducible refine wl_ge ?_
  | with_reducible refine wl_eqI ?_
  | with_reducible refine wl_neI ?_
  | with_reducible refine wl_neStr ?_
  | with_reducible refine wl_lenlv ?_
  | with_reducible refine wl_lentv ?_
  | with_reducible refine wl_lenl ?_
  | with_reducible refine wl_lent ?_
  | with_reducible refine wl_tupl ?_
  | with_reducible refine wl_tupt ?_
  | with_reducible refine wl_listl ?_
  | with_reducible refine wl_listt ?_
  | with_reducible refine wl_max2 ?_
  | with_reducible refine wl_min2 ?_
  | with_reducible refine wl_abs ?_
  | with_reducible refine wl_int ?_
  | with_reducible refine wl_enumt ?_
  | with_reducible refine wl_ziptt ?_
  | with_reducible refine wl_zip3 ?_
  | ((with_reducible apply wl_ixvt); · first | assumption | omega)
  | ((with_reducible apply wl_ixvl); · first | assumption | omega)
  | ((with_reducible apply wl_repT); · first | assumption | omega)
  | ((with_reducible apply wl_repL); · first | assumption | omega)
  | ((with_reducible apply wl_rg1); · first | assumption | omega)
  | ((with_reducible apply wp_rng1); · first | assumption | omega)
  | ((with_reducible apply wsl_of); · exact rfl)
  | ((with_reducible apply wol_of); · exact rfl)
  | with_reducible refine wp_OwnL ?_
  | with_reducible refine wp_SetI ?_
  | with_reducible refine wp_AugI ?_
  | with_reducible refine wp_Aug ?_
  | with_reducible refine wp_Met ?_
  | with_reducible refine wl_oAdd ?_
  | with_reducible refine wl_oSub ?_
  | ((with_reducible apply wl_append); · first | exact Nat.le_of_ble_eq_true rfl | (simp; done) | (simp; omega))
  | ((with_reducible apply wl_extend); · first | exact Nat.le_of_ble_eq_true rfl | (simp; done) | (simp; omega))
  | ((with_reducible apply wl_setV); · first | assumption | omega)
  | ((with_reducible apply wl_getV); · first | assumption | omega)
  | ((with_reducible apply le_and); · first | exact Nat.le_of_ble_eq_true rfl | (simp; done) | (simp; omega))
  | ((with_reducible apply wl_addT); · first | exact Nat.le_of_ble_eq_true rfl | (simp; done) | (simp; omega))
  | ((with_reducible apply wl_addLL); · first | exact Nat.le_of_ble_eq_true rfl | (simp; done) | (simp; omega))
  | ((with_reducible apply wl_addDL); · first | exact Nat.le_of_ble_eq_true rfl | (simp; done) | (simp; omega))
  | (dsimp only [relE, restE, wipeE, keepV, List.set_cons_zero, List.set_cons_succ, List.getElem?_cons_zero, List.getElem?_cons_succ])
  | (refine And.intro rfl ?_)
  | with_reducible refine wl_is_int_none ?_
  | with_reducible refine wl_is_int_bool ?_
  | with_reducible refine wl_is_int_int ?_
  | with_reducible refine wl_is_int_str ?_
  | with_reducible refine wl_is_int_list ?_
  | with_reducible refine wl_is_int_tuple ?_
  | with_reducible refine wl_is_int_dict ?_
  | with_reducible refine wl_is_bool_none ?_
  | with_reducible refine wl_is_bool_bool ?_
  | with_reducible refine wl_is_bool_int ?_
  | with_reducible refine wl_is_bool_str ?_
  | with_reducible refine wl_is_bool_list ?_
  | with_reducible refine wl_is_bool_tuple ?_
  | with_reducible refine wl_is_bool_dict ?_
  | with_reducible refine wl_is_tuple_none ?_
  | with_reducible refine wl_is_tuple_bool ?_
  | with_reducible refine wl_is_tuple_int ?_
  | with_reducible refine wl_is_tuple_str ?_
  | with_reducible refine wl_is_tuple_list ?_
  | with_reducible refine wl_is_tuple_tuple ?_
  | with_reducible refine wl_is_tuple_dict ?_
  | with_reducible refine wl_is_list_none ?_
  | with_reducible refine wl_is_list_bool ?_
  | with_reducible refine wl_is_list_int ?_
  | with_reducible refine wl_is_list_str ?_
  | with_reducible refine wl_is_list_list ?_
  | with_reducible refine wl_is_list_tuple ?_
  | with_reducible refine wl_is_list_dict ?_
  | with_reducible refine wl_is_str_none ?_
  | with_reducible refine wl_is_str_bool ?_
  | with_reducible refine wl_is_str_int ?_
  | with_reducible refine wl_is_str_str ?_
  | with_reducible refine wl_is_str_list ?_
  | with_reducible refine wl_is_str_tuple ?_
  | with_reducible refine wl_is_str_dict ?_)
theorem perm_sum {xs ys : List Int} (h : xs.Perm ys) : xs.sum = ys.sum := by
  induction h with
  | nil => rfl
  | cons x _ ih => rw [List.sum_cons, List.sum_cons, ih]
  | swap x y l => simp only [List.sum_cons]; omega
  | trans _ _ a b => exact a.trans b
theorem sum_perm {m : Nat} {p q : Nat → Nat} (h : Iv m p q) (f : Nat → Int) : ((List.range m).map fun i => f (q i)).sum = ((List.range m).map f).sum := by
  have hp : ((List.range m).map q).Perm (List.range m) := by
    refine (List.perm_ext_iff_of_nodup ?_ List.nodup_range).mpr fun a => ?_
    · rw [List.nodup_iff_pairwise_ne, List.pairwise_map]
      refine List.Pairwise.imp_of_mem ?_ (List.nodup_range (n := m))
      intro a b ha hb hab e
      have := h.d a (List.mem_range.mp ha)
      rw [e, h.d b (List.mem_range.mp hb)] at this
      exact hab this.symm
    · rw [List.mem_map, List.mem_range]
      constructor
      · rintro ⟨i, hi, rfl⟩
        exact h.b i (List.mem_range.mp hi)
      · intro ha
        exact ⟨p a, List.mem_range.mpr (h.a a ha), h.c a ha⟩
  have := perm_sum (hp.map f)
  rwa [List.map_map] at this
theorem led_sum {m : Nat} {p q : Nat → Nat} {s r l : Nat → Int} (hi : Iv m p q) (ps2 : ∀ j, j < m → s j * s j = 1) : ((List.range m).map fun j => (s (q j) * r (q j)) * (s (q j) * l (q j))).sum = ((List.range m).map fun i => r i * l i).sum := by
  have e := sum_perm hi fun i => (s i * r i) * (s i * l i)
  refine e.trans (congrArg List.sum (List.map_congr_left fun i hi => ?_))
  have h := ps2 i (List.mem_range.mp hi)
  calc s i * r i * (s i * l i) = (s i * s i) * (r i * l i) := by rw [Int.mul_assoc, Int.mul_left_comm (r i), ← Int.mul_assoc]
    _ = r i * l i := by rw [h, Int.one_mul]
theorem vec_sum {m : Nat} {f : Nat → Int} {Q : D → Prop} (q : Q (.int ((List.range m).map f).sum)) : wl (sumN [.list (vec m f)]) Q := wl_of (by
  show (intsD (vec m f)).map _ = _
  have : intsD (vec m f) = some ((List.range m).map f) := by
    unfold vec
    induction List.range m with
    | nil => rfl
    | cons i is ih => rw [List.map_cons, intsD, ih]; rfl
  rw [this]; rfl) q
theorem cut_sub {ds : List D} {a b : Option Int} : (cutL ds a b).length ≤ ds.length ∧ ∀ d ∈ cutL ds a b, d ∈ ds := by
  unfold cutL
  refine ⟨?_, fun d hd => List.mem_of_mem_drop (List.mem_of_mem_take hd)⟩
  rw [List.length_take, List.length_drop]
  omega
theorem wl_slT {ds : List D} {a b : Option Int} {Q : D → Prop} (q : Q (.tuple (cutL ds a b))) : wl (slD (.tuple ds) a b) Q := wl_of rfl q
theorem weight_len : ∀ ds : List D, ds.length ≤ PyData.weightAll ds
  | [] => Nat.zero_le _
  | d :: ds => by rw [PyData.weightAll, List.length_cons]; have := weight_len ds; omega
theorem depth_mem : ∀ {ds : List D} {d : D}, d ∈ ds → PyData.depth d ≤ PyData.depthAll ds ∧ PyData.weight d ≤ PyData.weightAll ds
  | e :: ds, d, h => by
    rw [PyData.depthAll, PyData.weightAll]
    rcases List.mem_cons.mp h with h | h
    · subst h; omega
    · have := depth_mem h; omega
theorem plain_mem : ∀ {ds : List D} {d : D}, PyData.plainAll ds = true → d ∈ ds → d.plain = true
  | e :: ds, d, hp, h => by
    rw [PyData.plainAll, Bool.and_eq_true] at hp
    rcases List.mem_cons.mp h with h | h
    · rw [h]; exact hp.1
    · exact plain_mem hp.2 h
theorem vec_depth (m : Nat) (f : Nat → Int) : PyData.depthAll (vec m f) ≤ 0 := by
  unfold vec
  induction List.range m with
  | nil => rw [List.map_nil, PyData.depthAll]; omega
  | cons i is ih => rw [List.map_cons, PyData.depthAll, PyData.depth]; omega
theorem Sm.fit {w : Nat} {v : D} (h : Sm 6 w v) (hw : w ≤ 1048576) : Fit v := by
  refine ⟨fun ds e => ?_, fun ds e d hd es e2 => ?_⟩
  · subst e
    have := h.wt
    rw [PyData.weight] at this
    have := weight_len ds
    omega
  · subst e
    have hw2 := h.wt
    have hd2 := h.dep
    have hp := PyData.plain_of_canLay0 _ h.lay
    rw [PyData.weight] at hw2
    rw [PyData.depth] at hd2
    rw [PyData.plain] at hp
    have h3 := depth_mem hd
    have h4 := plain_mem hp hd
    subst e2
    rw [PyData.weight, PyData.depth] at h3
    rw [PyData.plain] at h4
    refine ⟨by have := weight_len es; omega, fun x hx => ⟨plain_mem h4 hx, ?_⟩⟩
    have := depth_mem hx
    omega
theorem wl_index {m : Nat} {p q : Nat → Nat} {j : Nat} {Q : D → Prop} (h : Iv m p q) (hj : j < m) (k : Q (.int (q j : Int))) : wl (if recv (.tuple (vec m fun i => (p i : Int))) = true then rM idxN (tyD (.tuple (vec m fun i => (p i : Int)))) (.tuple (vec m fun i => (p i : Int))) [.int (j : Int)] else none) Q := wl_of (by
  rw [if_pos (by rfl)]
  show (if "tuple" = "tuple" then idxN (.tuple (vec m fun i => (p i : Int))) [.int (j : Int)] else none) = _
  rw [if_pos rfl, idx_vec h hj]) k
theorem Iv.comp {m : Nat} {p q p2 q2 : Nat → Nat} (h : Iv m p q) (g : Iv m p2 q2) : Iv m (fun i => p2 (p i)) (fun j => q (q2 j)) :=
  ⟨fun i hi => g.a _ (h.a i hi), fun i hi => h.b _ (g.b i hi), fun i hi => by rw [g.c _ (h.a i hi), h.c i hi], fun i hi => by rw [h.d _ (g.b i hi), g.d i hi]⟩
theorem wφ_law_of {ds : List D} {st : Src} {Q : D → Src → Prop} (h0 : ds ≠ []) (hl : ds.length ≤ 16777216) (q : ∀ d st', d ∈ ds → Q d st') : wφ phi_law_of [.s, .d (.list ds)] st Q := by
  refine wφ_fn ?_
  show wp g_law_of [some .s, some (.v (.list ds))] st _
  unfold g_law_of
  repeat array_get_dec
  have hp := List.length_pos_iff.mpr h0
  have hm : (ds.length : Int).natAbs.log2 < 9000 := by
    have : ds.length.log2 < 25 := (Nat.log2_lt (by omega)).mpr (by omega)
    simp; omega
  refine wφ_pick hm fun r st' h1 h2 => ?_
  repeat array_get_dec
  obtain ⟨i, rfl⟩ : ∃ i : Nat, r = (i : Int) := ⟨r.toNat, by omega⟩
  have hi : i < ds.length := by omega
  refine wl_ixl (List.getElem?_eq_getElem hi) ?_
  repeat array_get_dec
  exact q _ _ (List.getElem_mem hi)
theorem law_vals {m : Nat} (hm : m ≤ 16777216) {xs : List D} (hx : ∀ v ∈ xs, Sm 6 60000 v) {st : Src} {y0 y1 y2 y4 y5 y6 y7 y8 y9 y10 y11 y12 y13 y14 y15 x16 x17 y18 y19 y20 y21 y22 : Option Sl} {P : Fl → DEnv → Src → Prop}
    (hq : ∀ x16 x17, P .nx [y0, y1, y2, some (.v (.int (m : Int))), y4, y5, y6, y7, y8, y9, y10, y11, y12, y13, y14, y15, x16, x17, y18, y19, y20, y21, y22] st) :
    wp (forL (gSet 16) law_b4 xs) [y0, y1, y2, some (.v (.int (m : Int))), y4, y5, y6, y7, y8, y9, y10, y11, y12, y13, y14, y15, x16, x17, y18, y19, y20, y21, y22] st P := by
  refine wfor_inv (fun xs e st' => (∀ v ∈ xs, Sm 6 60000 v) ∧ st' = st ∧ ∃ x16 x17, e = [y0, y1, y2, some (.v (.int (m : Int))), y4, y5, y6, y7, y8, y9, y10, y11, y12, y13, y14, y15, x16, x17, y18, y19, y20, y21, y22]) ⟨hx, rfl, _, _, rfl⟩ ?_ ?_
  · rintro v xs _ _ ⟨hx, rfl, x16, x17, rfl⟩
    have hv := hx v List.mem_cons_self
    unfold law_b4
    repeat array_get_dec
    refine wl_repr hv (by omega) (by omega) ?_
    repeat array_get_dec
    refine wφ_of (is_signed_map_spec hm (hv.fit (by omega)) _) ?_
    repeat array_get_dec
    refine wl_repr (Sm.bool (k := 0)) (by omega) (by omega) ?_
    repeat array_get_dec
    refine wφ_of (law_is_signed_spec hm (hv.fit (by omega)) _) ?_
    repeat array_get_dec
    refine wl_repr (Sm.bool (k := 0)) (by omega) (by omega) ?_
    repeat array_get_dec
    refine wl_repr hv (by omega) (by omega) ?_
    repeat array_get_dec
    exact ⟨fun v hv => hx v (List.mem_cons_of_mem _ hv), rfl, _, _, rfl⟩
  · rintro _ _ ⟨-, rfl, x16, x17, rfl⟩
    exact hq _ _
/-- the law's slots -/
theorem law_lap (st : Src) (x2 x3 x4 x5 x6 x7 x8 x9 x10 x11 x12 x13 x14 x15 x16 x17 : Option Sl) {P : Fl → DEnv → Src → Prop}
    (hq : ∀ x2 x3 x4 x5 x6 x7 x8 x9 x10 x11 x12 x13 x14 x15 x16 x17 st, P .nx [none, some .s, x2, x3, x4, x5, x6, x7, x8, x9, x10, x11, x12, x13, x14, x15, x16, x17, none, none, none, none, none] st) :
    wp law_b5 [none, some .s, x2, x3, x4, x5, x6, x7, x8, x9, x10, x11, x12, x13, x14, x15, x16, x17, none, none, none, none, none] st P := by
  unfold law_b5
  repeat array_get_dec
  refine wφ_pick (by decide +kernel) fun r st h0 h1 => ?_
  obtain ⟨m, hm, hm1, hm9⟩ : ∃ m : Nat, 1 + r = (m : Int) ∧ 1 ≤ m ∧ m ≤ 9 := ⟨(1 + r).toNat, by omega, by omega, by omega⟩
  repeat array_get_dec
  rw [hm]
  repeat array_get_dec
  refine wφ_signed (by omega) fun p q s st hi hs => ?_
  repeat array_get_dec
  refine wφ_signed (by omega) fun p2 q2 s2 st hi2 hs2 => ?_
  repeat array_get_dec
  refine wp_rngK 2 rfl (by omega) ?_
  repeat array_get_dec
  refine wc_src (fun _ y => ∃ f : Nat → Int, y = .tuple (vec m f) ∧ ∀ i, i < m → -10 ≤ f i ∧ f i ≤ 10) (fun x hx st => ?_) (fun ys st hy => ?_)
  · unfold law_e2
    repeat array_get_dec
    refine wc_src (fun _ y => ∃ r, y = .int r ∧ (-10 ≤ r ∧ r ≤ 10)) (fun x hx st => ?_) (fun ys st hy => ?_)
    · unfold law_e1
      repeat array_get_dec
      refine wφ_pick (by decide +kernel) fun r st h0 h1 => ?_
      repeat array_get_dec
      exact ⟨⟨_, rfl, by omega, by omega⟩, rfl⟩
    · obtain ⟨f, rfl, hf⟩ := all2_vec (fun _ _ h => h) hy
      repeat array_get_dec
      exact ⟨⟨f, rfl, hf⟩, rfl⟩
  obtain ⟨_, _, rfl, ⟨r, rfl, hr⟩, ⟨l, rfl, hl⟩⟩ := All2.two (a := .int 0) (b := .int 1) hy
  clear hy
  repeat array_get_dec
  have s1 : ∀ i, i < m → (s i).natAbs < 4611686018427387904 := fun i h => by have := hs i h; omega
  have s12 : ∀ i, i < m → (s i).natAbs < 10 ^ 12 := fun i h => by have := hs i h; omega
  have s21 : ∀ i, i < m → (s2 i).natAbs < 4611686018427387904 := fun i h => by have := hs2 i h; omega
  have s22 : ∀ i, i < m → (s2 i).natAbs < 10 ^ 12 := fun i h => by have := hs2 i h; omega
  have r12 : ∀ i, i < m → (r i).natAbs < 10 ^ 12 := fun i h => by have := hr i h; omega
  have mpS : ∀ {p : Nat → Nat} {q : Nat → Nat} {s : Nat → Int}, Iv m p q → (∀ i, i < m → (s i).natAbs < 10 ^ 12) → Sm 2 (m * 42 + 1 + (m * 42 + 1 + 0)) (mp m p s) := fun h hs =>
    Sm.tuple (.cons (.tuple (vec_sm fun i hi => by have := h.a i hi; omega)) (.cons (.tuple (vec_sm hs)) .nil))
  have kS : Sm 3 2000 (.list [mp m p s, mp m p2 s2, .tuple (vec m r)]) :=
    (Sm.list (.cons (mpS hi s12) (.cons (mpS hi2 s22) (.cons ((Sm.tuple (vec_sm r12)).up (by omega) (Nat.le_refl _)) .nil)))).up (by omega) (by omega)
  refine wl_repr kS (by omega) (by omega) ?_
  repeat array_get_dec
  refine wφ_of (row_led_spec hi (by omega) s1 _) ?_
  repeat array_get_dec
  refine wc_vecv (fun j => (q j : Int)) (fun j hj => ?_) ?_
  · unfold law_e3
    repeat array_get_dec
    refine wl_index hi hj ?_
    repeat array_get_dec
  repeat array_get_dec
  have qs2 : ∀ j, j < m → s (q j) * s (q j) = 1 := fun j hj => by rcases hs (q j) (hi.b j hj) with h | h <;> rw [h] <;> rfl
  have ps2 : ∀ j, j < m → s j * s j = 1 := fun j hj => by rcases hs j hj with h | h <;> rw [h] <;> rfl
  have tS : ∀ {f : Nat → Int}, (∀ i, i < m → -10 ≤ f i ∧ f i ≤ 10) → Sm 2 2000 (.tuple (vec m fun j => s (q j) * f (q j))) := fun {f} hf => (Sm.tuple (vec_sm fun j hj => by
    have h1 := hf (q j) (hi.b j hj)
    rcases hs (q j) (hi.b j hj) with h | h <;> rw [h] <;> omega)).up (by omega) (by omega)
  refine wl_repr (tS hr) (by omega) (by omega) ?_
  repeat array_get_dec
  refine wφ_of (law_led_spec hi (by omega) s1 _) ?_
  repeat array_get_dec
  refine wl_repr (tS hr) (by omega) (by omega) ?_
  repeat array_get_dec
  refine wφ_of (map_back_spec hi (by omega) s1 _) ?_
  repeat array_get_dec
  have bS : Sm 2 2000 (.tuple (vec m fun j => (q j : Int))) := (Sm.tuple (vec_sm fun j hj => by have := hi.b j hj; omega)).up (by omega) (by omega)
  refine wl_repr bS (by omega) (by omega) ?_
  repeat array_get_dec
  refine wl_repr bS (by omega) (by omega) ?_
  repeat array_get_dec
  refine wφ_of (row_led_spec hi (by omega) s1 _) ?_
  repeat array_get_dec
  refine wc_vec _ (fun j => (s (q j) * r (q j)) * (s (q j) * l (q j))) (fun j hj => ?_) ?_
  · repeat array_get_dec
    refine wl_mul (.inl ?_) ?_
    · have h1 := hr (q j) (hi.b j hj)
      rcases hs (q j) (hi.b j hj) with h | h <;> rw [h] <;> omega
    repeat array_get_dec
  repeat array_get_dec
  refine vec_sum ?_
  repeat array_get_dec
  refine wc_vec _ (fun j => r j * l j) (fun j hj => ?_) ?_
  · repeat array_get_dec
    refine wl_mul (.inl (by have h1 := hr j hj; omega)) ?_
    repeat array_get_dec
  repeat array_get_dec
  refine vec_sum ?_
  repeat array_get_dec
  refine wb_n (fun h => absurd (led_sum hi ps2) h) fun _ => ?_
  repeat array_get_dec
  refine wφ_of (map_back_spec hi (by omega) s1 _) ?_
  repeat array_get_dec
  refine wφ_of (row_led_spec hi.symm (by omega) (fun j hj => s1 _ (hi.b j hj)) _) ?_
  repeat array_get_dec
  have rS : Sm 2 2000 (.tuple (vec m r)) := (Sm.tuple (vec_sm r12)).up (by omega) (by omega)
  have e1 : (vec m fun j => s (q (p j)) * (s (q (p j)) * r (q (p j)))) = vec m r := vec_congr fun j hj => by
    rw [hi.c j hj, ← Int.mul_assoc, ps2 j hj, Int.one_mul]
  rw [e1]
  refine wl_ne_refl rS.shp ?_
  repeat array_get_dec
  refine wφ_of (map_back_spec hi (by omega) s1 _) ?_
  repeat array_get_dec
  refine wφ_of (map_back_spec hi.symm (by omega) (fun j hj => s1 _ (hi.b j hj)) _) ?_
  repeat array_get_dec
  have e2 : (vec m fun j => s (q (p j))) = vec m s := vec_congr fun j hj => by rw [hi.c j hj]
  show wl (neD (.tuple [.tuple (vec m fun i => (p i : Int)), .tuple (vec m fun j => s (q (p j)))]) (mp m p s)) _
  rw [e2]
  refine wl_ne_refl (mpS hi s12).shp ?_
  repeat array_get_dec
  refine wφ_of (maps_followed_spec hi (by omega) s1 _) ?_
  repeat array_get_dec
  have bs : ∀ i, i < m → (s i * s2 (p i)).natAbs = 1 := fun i h => by
    rcases hs i h with h1 | h1 <;> rcases hs2 (p i) (hi.a i h) with h2 | h2 <;> rw [h1, h2] <;> rfl
  refine wφ_of (row_led_spec (hi.comp hi2) (by omega) (fun i h => by rw [bs i h]; omega) _) ?_
  repeat array_get_dec
  refine wφ_of (row_led_spec hi2 (by omega) s21 _) ?_
  repeat array_get_dec
  have e3 : (vec m fun j => s (q (q2 j)) * s2 (p (q (q2 j))) * r (q (q2 j))) = vec m fun j => s2 (q2 j) * (s (q (q2 j)) * r (q (q2 j))) := vec_congr fun j hj => by
    rw [hi.d _ (hi2.b j hj), Int.mul_comm (s _) (s2 _), Int.mul_assoc]
  rw [e3]
  have lS : shp (.tuple (vec m fun j => s2 (q2 j) * (s (q (q2 j)) * r (q (q2 j))))) = true := (shp_ints vec_whole).2
  refine wl_ne_refl lS ?_
  repeat array_get_dec
  refine wφ_of (map_back_spec hi (by omega) s1 _) ?_
  repeat array_get_dec
  refine wφ_of (maps_followed_spec hi (by omega) s1 _) ?_
  repeat array_get_dec
  have e4 : (vec m fun i => ((q (p i) : Nat) : Int)) = vec m fun i => (i : Int) := vec_congr fun j hj => by rw [hi.c j hj]
  have e5 : (vec m fun i => s i * s (q (p i))) = vec m fun _ => 1 := vec_congr fun j hj => by rw [hi.c j hj, ps2 j hj]
  show wl (neD (.tuple [.tuple (vec m fun i => ((q (p i) : Nat) : Int)), .tuple (vec m fun i => s i * s (q (p i)))]) (.tuple [.tuple (vec m fun i => (i : Int)), .tuple (vec m fun _ => 1)])) _
  rw [e4, e5]
  have shpP : ∀ {f g : Nat → Int}, shp (.tuple [.tuple (vec m f), .tuple (vec m g)]) = true := fun {f g} => (shp_of fun d hd => by
    have h : ∀ {f : Nat → Int}, (PyData.tuple (vec m f)).plain = true ∧ (PyData.tuple (vec m f)).depth ≤ 63 := fun {f} => by
      have h := (vec_shp m f).2
      have h2 := (shp_of (ds := vec m f) fun d hd => by obtain ⟨i, _, rfl⟩ := vec_mem hd; exact ⟨rfl, by rw [PyData.depth]; omega⟩).2
      refine ⟨by unfold shp at h; simp at h; exact h.1, ?_⟩
      rw [PyData.depth]
      have : PyData.depthAll (vec m f) ≤ 0 := (vec_depth m f)
      omega
    rcases List.mem_cons.mp hd with h1 | h1
    · rw [h1]; exact h
    · rcases List.mem_cons.mp h1 with h1 | h1
      · rw [h1]; exact h
      · exact nomatch h1).2
  refine wl_ne_refl shpP ?_
  repeat array_get_dec
  refine wφ_of (maps_followed_spec hi (by omega) s1 _) ?_
  repeat array_get_dec
  refine wφ_of (maps_followed_spec (hi.comp hi2) (by omega) (fun i h => by rw [bs i h]; omega) _) ?_
  repeat array_get_dec
  refine wφ_of (maps_followed_spec hi2 (by omega) s21 _) ?_
  repeat array_get_dec
  refine wφ_of (maps_followed_spec hi (by omega) s1 _) ?_
  repeat array_get_dec
  have e6 : (vec m fun i => s i * s2 (p i) * s (p2 (p i))) = vec m fun i => s i * (s2 (p i) * s (p2 (p i))) := vec_congr fun j hj => by rw [Int.mul_assoc]
  show wl (neD (.tuple [.tuple (vec m fun i => (p (p2 (p i)) : Int)), .tuple (vec m fun i => s i * s2 (p i) * s (p2 (p i)))]) (.tuple [.tuple (vec m fun i => (p (p2 (p i)) : Int)), .tuple (vec m fun i => s i * (s2 (p i) * s (p2 (p i))))])) _
  rw [e6]
  refine wl_ne_refl shpP ?_
  repeat array_get_dec
  refine wφ_pick (by have : m.log2 ≤ m := Nat.log2_le_self m; simp; omega) fun k st h2 h3 => ?_
  repeat array_get_dec
  refine wφ_law_of (by simp) (by simp) fun odd st ho => ?_
  repeat array_get_dec
  refine wl_slT ?_
  repeat array_get_dec
  have c1 : ∀ {a b : Option Int} {f : Nat → Int}, (cutL (vec m f) a b).length ≤ 9 := fun {a b f} => by
    have := (cut_sub (ds := vec m f) (a := a) (b := b)).1
    rw [vec_len] at this
    omega
  have cA := @c1 none (some k) (fun i => (p i : Int))
  have cB := @c1 (some (k + 1)) none (fun i => (p i : Int))
  have cC := @c1 none (some k) s
  have cD := @c1 (some (k + 1)) none s
  refine wl_slT ?_
  repeat array_get_dec
  refine wl_slT ?_
  repeat array_get_dec
  refine wl_slT ?_
  repeat array_get_dec
  refine wl_slT ?_
  repeat array_get_dec
  refine law_vals (by omega) (fun v hv => ?_) (fun y16 y17 => ?_)
  · have oS : Sm 2 100 odd := by
      simp only [List.mem_cons, List.not_mem_nil, or_false] at ho
      rcases ho with h | h | h | h | h | h | h | h | h
      · rw [h]; exact (Sm.none (k := 0)).up
      · rw [h]; exact (Sm.bool (k := 0)).up
      · rw [h]; exact (Sm.int (by decide)).up (Nat.le_refl _)
      · rw [h]; exact (Sm.int (by decide)).up (Nat.le_refl _)
      · rw [h]; exact (Sm.int (by decide)).up (Nat.le_refl _)
      · rw [h]; exact (Sm.str (k := 0) (w := 1) (by decide +kernel) (by decide +kernel)).up
      · rw [h]; exact (Sm.tuple (k := 0) .nil).up
      · rw [h]; exact (Sm.list (k := 0) (.cons (.int (by decide)) .nil)).up
      · rw [h]; exact (Sm.int (by omega)).up (Nat.le_refl _)
    have vA : ∀ {f : Nat → Int}, (∀ i, i < m → (f i).natAbs < 10 ^ 12) → SmA 0 378 (vec m f) := fun h => (vec_sm h).up (Nat.le_refl _) (by omega)
    have pI : ∀ {p q : Nat → Nat}, Iv m p q → ∀ i, i < m → ((p i : Nat) : Int).natAbs < 10 ^ 12 := fun h i hi => by have := h.a i hi; omega
    have bI : ∀ i, i < m → (s i * s2 (p i)).natAbs < 10 ^ 12 := fun i h => by rw [bs i h]; omega
    have cS : ∀ {f : Nat → Int} {a b : Option Int}, (∀ i, i < m → (f i).natAbs < 10 ^ 12) → SmA 0 378 (cutL (vec m f) a b) := fun {f a b} h =>
      (SmA.of (w := 41) fun d hd => by
        obtain ⟨i, hi, rfl⟩ := vec_mem (cut_sub.2 d hd)
        exact .int (h i hi)).up (Nat.le_refl _) (by have := @c1 a b f; omega)
    have oT : SmA 2 101 [odd] := (SmA.cons oS .nil).up (Nat.le_refl _) (by omega)
    have two : ∀ {a b : D} {w w' : Nat}, Sm 4 w a → Sm 4 w' b → w ≤ 1000 → w' ≤ 1000 → Sm 6 60000 (.tuple [a, b]) := fun h1 h2 h3 h4 => (Sm.tuple (.cons h1 (.cons h2 .nil))).up (by omega) (by omega)
    have t1 : ∀ {ds : List D} {w : Nat}, SmA 0 w ds → Sm 4 w (.tuple ds) := fun h => (Sm.tuple h).up (by omega) (Nat.le_refl _)
    have t2 : ∀ {ds : List D} {w : Nat}, SmA 2 w ds → Sm 4 w (.tuple ds) := fun h => (Sm.tuple h).up (by omega) (Nat.le_refl _)
    have z0 : ∀ i, i < m → ((fun _ => 0 : Nat → Int) i).natAbs < 10 ^ 12 := fun i _ => by simp
    simp only [List.mem_append, List.mem_cons, List.not_mem_nil, or_false] at hv
    rcases hv with (((h | h | h | h | h | h | h | h) | h) | h) | h | h | h | h | h | h <;> rw [h]
    · exact (mpS hi s12).up (by omega) (by omega)
    · exact (Sm.tuple (vA (pI hi))).up (by omega) (by omega)
    · exact two (t1 (vA (pI hi))) (t1 (cS s12)) (by omega) (by omega)
    · exact two (t1 (vA s12)) (t1 (vA (pI hi))) (by omega) (by omega)
    · exact two (a := .list (vec m fun i => (p i : Int))) ((Sm.list (vA (pI hi))).up (by omega) (Nat.le_refl _)) (t1 (vA s12)) (by omega) (by omega)
    · exact (Sm.list (.cons (t1 (vA (pI hi))) (.cons (t1 (vA s12)) .nil))).up (by omega) (by omega)
    · exact (Sm.none (k := 0)).up
    · exact (Sm.tuple (k := 0) .nil).up
    · exact two (t2 ((((cS (pI hi)).up (k' := 2) (by omega) (Nat.le_refl _)).app oT).app ((cS (pI hi)).up (by omega) (Nat.le_refl _)))) (t1 (vA s12)) (by omega) (by omega)
    · exact two (t1 (vA (pI hi))) (t2 ((((cS s12).up (k' := 2) (by omega) (Nat.le_refl _)).app oT).app ((cS s12).up (by omega) (Nat.le_refl _)))) (by omega) (by omega)
    · exact (Sm.tuple (.cons (t1 (vA (pI hi))) (.cons (t1 (vA s12)) (.cons (Sm.int (k := 4) (by decide)) .nil)))).up (by omega) (by omega)
    · exact two (t1 (vA (pI hi))) (oS.up (by omega) (Nat.le_refl _)) (by omega) (by omega)
    · exact two (oS.up (by omega) (Nat.le_refl _)) (t1 (vA s12)) (by omega) (by omega)
    · exact two (t1 (vA z0)) (t1 (vA s12)) (by omega) (by omega)
    · exact oS.up
    · exact two (t1 (vA (pI (hi.comp hi2)))) (t1 (vA bI)) (by omega) (by omega)
  repeat array_get_dec
  refine wl_repr kS (by omega) (by omega) ?_
  repeat array_get_dec
  exact hq _ _ _ _ _ _ _ _ _ _ _ _ _ _ _ _ _
end DL.G
set_option Elab.async false
set_option linter.all false
set_option maxRecDepth 100000
set_option maxHeartbeats 4000000
set_option pp.deepTerms false
set_option pp.deepTerms.threshold 5
/-! K46L: the law is true. -/
namespace DL.G
open PySem PySem.Spec L2 DL
open PyProof.Rows hiding St
local macro_rules | `(tactic| array_get_dec) => `(tactic| first
  | with_reducible refine wp_Do ?_
  | ((with_reducible apply wp_Slot); · exact rfl)
  | with_reducible refine wp_C ?_
  | with_reducible refine wp_Cons ?_
  | with_reducible refine wp_Op2 ?_
  | with_reducible refine wrd_d ?_
  | ((with_reducible apply wrd_v); · exact rfl)
  | ((with_reducible apply wrd_l); · exact rfl)
  | ((with_reducible apply wrd_k); · exact rfl)
  | with_reducible refine wp_N ?_
  | with_reducible refine wrs_cons ?_
  | with_reducible refine wrs_nil ?_
  | with_reducible refine wp_nil ?_
  | ((with_reducible apply wp_Var); · exact rfl)
  | with_reducible refine wp_Call ?_
  | with_reducible refine wres_d ?_
  | ((with_reducible apply wres_v); · exact rfl)
  | ((with_reducible apply wres_s); · exact rfl)
  | ((with_reducible apply wres_l); · exact rfl)
  | ((with_reducible apply wres_k); · exact rfl)
  | with_reducible refine wres_nil ?_
  | with_reducible refine wset_0 ?_
  | with_reducible refine wset_s ?_
  | with_reducible refine kSeq_nx ?_
  | with_reducible refine kSeq_rt ?_
  | with_reducible refine kRt_rt ?_
  | with_reducible refine wp_Seq ?_
  | with_reducible refine wp_Set ?_
  | with_reducible refine wp_SetL ?_
  | with_reducible refine wp_Ret ?_
  | with_reducible refine wp_Drop ?_
  | with_reducible refine wp_If ?_
  | with_reducible refine wb_t ?_
  | with_reducible refine wb_f ?_
  | with_reducible refine wb_T ?_
  | with_reducible refine wb_F ?_
  | with_reducible refine wb_nt ?_
  | with_reducible refine wb_nf ?_
  | with_reducible refine wp_B ?_
  | with_reducible refine wp_bol ?_
  | with_reducible refine wp_And ?_
  | with_reducible refine wp_Or ?_
  | with_reducible refine wp_Not ?_
  | with_reducible refine wp_AndV ?_
  | with_reducible refine wp_OrV ?_
  | with_reducible refine wp_NotV ?_
  | with_reducible refine wp_Neg ?_
  | with_reducible refine wp_Isi ?_
  | with_reducible refine wp_Part ?_
  | with_reducible refine wp_intM ?_
  | with_reducible refine wp_Sl ?_
  | with_reducible refine wp_SlL ?_
  | with_reducible refine wp_listM ?_
  | (with_reducible refine wp_Tup ?_)
  | (with_reducible refine wp_Lst ?_)
  | with_reducible refine wp_List ?_
  | with_reducible refine wp_Fr2 ?_
  | with_reducible refine wp_FrN ?_
  | with_reducible refine wp_ret ?_
  | with_reducible refine wg_Set ?_
  | with_reducible refine wgs_nil ?_
  | with_reducible refine wgs_cons ?_
  | ((with_reducible apply wg_tupT); · exact rfl)
  | ((with_reducible apply wg_tupL); · exact rfl)
  | with_reducible refine wp_Asg ?_
  | with_reducible refine wz_nil ?_
  | with_reducible refine wz_V ?_
  | with_reducible refine wz_L ?_
  | with_reducible refine wp_AsgT ?_
  | with_reducible refine wp_ConsV ?_
  | with_reducible refine wp_ConsL ?_
  | with_reducible refine wsets_nil ?_
  | with_reducible refine wsets_cons ?_
  | with_reducible refine wp_Par ?_
  | with_reducible refine wp_skp ?_
  | ((with_reducible apply wp_Rel); · exact rfl)
  | with_reducible refine wp_SeqI ?_
  | with_reducible refine wp_seqL ?_
  | with_reducible refine wp_seqT ?_
  | with_reducible refine wp_It ?_
  | with_reducible refine wp_Lrg1 ?_
  | with_reducible refine wp_Lrg2 ?_
  | with_reducible refine wp_Trg1 ?_
  | with_reducible refine wp_For ?_
  | with_reducible refine wp_Lc ?_
  | with_reducible refine wp_bnd ?_
  | with_reducible refine kFor_nx ?_
  | with_reducible refine kFor_ct ?_
  | with_reducible refine kFor_bk ?_
  | with_reducible refine kFor_rt ?_
  | with_reducible refine wl_ix0t ?_
  | with_reducible refine wl_ix1t ?_
  | with_reducible refine wl_ix2t ?_
  | with_reducible refine wl_ix0l ?_
  | with_reducible refine wl_ix1l ?_
  | with_reducible refine wl_add ?_
  | with_reducible refine wl_sub ?_
  | with_reducible refine wl_neg ?_
  | with_reducible refine wl_lt ?_
  | with_reducible refine wl_le ?_
  | with_reducible refine wl_gt ?_
  | with_reducible refine wl_ge ?_
  | with_reducible refine wl_eqI ?_
  | with_reducible refine wl_neI ?_
  | with_reducible refine wl_neStr ?_
  | with_reducible refine wl_lenlv ?_
  | with_reducible refine wl_lentv ?_
  | with_reducible refine wl_lenl ?_
  | with_reducible refine wl_lent ?_
  | with_reducible refine wl_tupl ?_
  | with_reducible refine wl_tupt ?_
  | with_reducible refine wl_listl ?_
  | with_reducible refine wl_listt ?_
  | with_reducible refine wl_max2 ?_
  | with_reducible refine wl_min2 ?_
  | with_reducible refine wl_abs ?_
  | with_reducible refine wl_int ?_
  | with_reducible refine wl_enumt ?_
  | with_reducible refine wl_ziptt ?_
  | with_reducible refine wl_zip3 ?_
  | ((with_reducible apply wl_ixvt); · first | assumption | omega)
  | ((with_reducible apply wl_ixvl); · first | assumption | omega)
  | ((with_reducible apply wl_repT); · first | assumption | omega)
  | ((with_reducible apply wl_repL); · first | assumption | omega)
  | ((with_reducible apply wl_rg1); · first | assumption | omega)
  | ((with_reducible apply wp_rng1); · first | assumption | omega)
  | ((with_reducible apply wsl_of); · exact rfl)
  | ((with_reducible apply wol_of); · exact rfl)
  | with_reducible refine wp_OwnL ?_
  | with_reducible refine wp_SetI ?_
  | with_reducible refine wp_AugI ?_
  | with_reducible refine wp_Aug ?_
  | with_reducible refine wp_Met ?_
  | with_reducible refine wl_oAdd ?_
  | with_reducible refine wl_oSub ?_
  | ((with_reducible apply wl_append); · first | exact Nat.le_of_ble_eq_true rfl | (simp; done) | (simp; omega))
  | ((with_reducible apply wl_extend); · first | exact Nat.le_of_ble_eq_true rfl | (simp; done) | (simp; omega))
  | ((with_reducible apply wl_setV); · first | assumption | omega)
  | ((with_reducible apply wl_getV); · first | assumption | omega)
  | ((with_reducible apply le_and); · first | exact Nat.le_of_ble_eq_true rfl | (simp; done) | (simp; omega))
  | ((with_reducible apply wl_addT); · first | exact Nat.le_of_ble_eq_true rfl | (simp; done) | (simp; omega))
  | ((with_reducible apply wl_addLL); · first | exact Nat.le_of_ble_eq_true rfl | (simp; done) | (simp; omega))
  | ((with_reducible apply wl_addDL); · first | exact Nat.le_of_ble_eq_true rfl | (simp; done) | (simp; omega))
  | (dsimp only [relE, restE, wipeE, keepV, List.set_cons_zero, List.set_cons_succ, List.getElem?_cons_zero, List.getElem?_cons_succ])
  | (refine And.intro rfl ?_)
  | with_reducible refine wl_is_int_none ?_
  | with_reducible refine wl_is_int_bool ?_
  | with_reducible refine wl_is_int_int ?_
  | with_reducible refine wl_is_int_str ?_
  | with_reducible refine wl_is_int_list ?_
  | with_reducible refine wl_is_int_tuple ?_
  | with_reducible refine wl_is_int_dict ?_
  | with_reducible refine wl_is_bool_none ?_
  | with_reducible refine wl_is_bool_bool ?_
  | with_reducible refine wl_is_bool_int ?_
  | with_reducible refine wl_is_bool_str ?_
  | with_reducible refine wl_is_bool_list ?_
  | with_reducible refine wl_is_bool_tuple ?_
  | with_reducible refine wl_is_bool_dict ?_
  | with_reducible refine wl_is_tuple_none ?_
  | with_reducible refine wl_is_tuple_bool ?_
  | with_reducible refine wl_is_tuple_int ?_
  | with_reducible refine wl_is_tuple_str ?_
  | with_reducible refine wl_is_tuple_list ?_
  | with_reducible refine wl_is_tuple_tuple ?_
  | with_reducible refine wl_is_tuple_dict ?_
  | with_reducible refine wl_is_list_none ?_
  | with_reducible refine wl_is_list_bool ?_
  | with_reducible refine wl_is_list_int ?_
  | with_reducible refine wl_is_list_str ?_
  | with_reducible refine wl_is_list_list ?_
  | with_reducible refine wl_is_list_tuple ?_
  | with_reducible refine wl_is_list_dict ?_
  | with_reducible refine wl_is_str_none ?_
  | with_reducible refine wl_is_str_bool ?_
  | with_reducible refine wl_is_str_int ?_
  | with_reducible refine wl_is_str_str ?_
  | with_reducible refine wl_is_str_list ?_
  | with_reducible refine wl_is_str_tuple ?_
  | with_reducible refine wl_is_str_dict ?_)
theorem law_end {st : Src} {e : DEnv} {P : Fl → DEnv → Src → Prop} (hq : P (.rt (.bool true)) e st) : wp (cSeq (cRet (cOp2 eqD (mDo (cCall phi_row_led (cCons (mDo (cTup (cCons (cTup (cCons (mC (.int 1)) (cCons (mC (.int 0)) (cCons (mC (.int 2)) (ret []))))) (cCons (cTup (cCons (mC (.int 1)) (cCons (cNeg (mC (.int 1))) (cCons (mC (.int 1)) (ret []))))) (ret []))))) (cCons (mDo (cTup (cCons (mC (.int 5)) (cCons (mC (.int 6)) (cCons (mC (.int 7)) (ret [])))))) (ret []))))) (mDo (cTup (cCons (cNeg (mC (.int 6))) (cCons (mC (.int 5)) (cCons (mC (.int 7)) (ret [])))))))) skp) e st P := by
  repeat array_get_dec
  have h := row_led_spec (m := 3) (p := fun i => [1, 0, 2].getD i 0) (q := fun i => [1, 0, 2].getD i 0) (s := fun i => [1, -1, 1].getD i 0) (r := fun i => [5, 6, 7].getD i 0)
    ⟨by decide, by decide, by decide, by decide⟩ (by omega) (by decide +kernel) st
  have e1 : (vec 3 fun i => (([1, 0, 2].getD i 0 : Nat) : Int)) = [.int 1, .int 0, .int 2] := rfl
  have e2 : (vec 3 fun i => [1, -1, 1].getD i 0) = [.int 1, .int (-1), .int 1] := rfl
  have e3 : (vec 3 fun i => [5, 6, 7].getD i 0) = [.int 5, .int 6, .int 7] := rfl
  have e4 : (vec 3 fun j => [1, -1, 1].getD ([1, 0, 2].getD j 0) 0 * [5, 6, 7].getD ([1, 0, 2].getD j 0) 0) = [.int (-6), .int 5, .int 7] := rfl
  unfold mp at h
  rw [e1, e2, e3, e4] at h
  refine wφ_of h ?_
  repeat array_get_dec
  refine wl_eq_refl (by decide +kernel) ?_
  repeat array_get_dec
  exact hq
theorem law_true : ∀ ns : List Int, ns.length ≤ 63 → (∀ z ∈ ns, Builtin.Int.intBits z ≤ 1048576) → ∃ s', g_law (envL 21, srcOf ns) = some (.rt (.bool true), s') := by
  intro ns _ _
  have h : wp g_law (envL 21) (srcOf ns) fun fl _ _ => fl = .rt (.bool true) := by
    show wp g_law [none, some .s, none, none, none, none, none, none, none, none, none, none, none, none, none, none, none, none, none, none, none, none, none] (srcOf ns) _
    unfold g_law
    repeat array_get_dec
    refine wp_rngK 5 rfl (by omega) ?_
    repeat array_get_dec
    refine wfor_rng _ (fun _ e st => ∃ x2 x3 x4 x5 x6 x7 x8 x9 x10 x11 x12 x13 x14 x15 x16 x17 : Option Sl, e = [none, some .s, x2, x3, x4, x5, x6, x7, x8, x9, x10, x11, x12, x13, x14, x15, x16, x17, none, none, none, none, none]) ⟨_, _, _, _, _, _, _, _, _, _, _, _, _, _, _, _, rfl⟩ ?_ ?_
    · rintro k hk _ st ⟨x2, x3, x4, x5, x6, x7, x8, x9, x10, x11, x12, x13, x14, x15, x16, x17, rfl⟩
      repeat array_get_dec
      refine law_lap st _ _ _ _ _ _ _ _ _ _ _ _ _ _ _ _ (fun _ _ _ _ _ _ _ _ _ _ _ _ _ _ _ _ st => ?_)
      repeat array_get_dec
      exact ⟨_, _, _, _, _, _, _, _, _, _, _, _, _, _, _, _, rfl⟩
    · rintro _ st ⟨x2, x3, x4, x5, x6, x7, x8, x9, x10, x11, x12, x13, x14, x15, x16, x17, rfl⟩
      refine kSeq_nx ?_
      exact law_end (P := fun fl _ _ => fl = .rt (.bool true)) rfl
  obtain ⟨fl, e', st', h1, rfl⟩ := wp_iff.mp h
  exact ⟨_, h1⟩
end DL.G
set_option Elab.async false
set_option linter.all false
set_option maxRecDepth 100000
set_option maxHeartbeats 4000000
namespace DL.G
open PySem PySem.Spec L2 DL
open PyProof.Rows hiding St
/-! ### the head -/
def d_law_source : He.DefD := ⟨("_law_source", none), "_law_source", "_law_source", defArgs s_law_source, defBody s_law_source, defScope s_law_source, [], []⟩
def d_law_pick : He.DefD := ⟨("_law_pick", none), "_law_pick", "_law_pick", defArgs s_law_pick, defBody s_law_pick, defScope s_law_pick, [], []⟩
def d_law_of : He.DefD := ⟨("_law_of", none), "_law_of", "_law_of", defArgs s_law_of, defBody s_law_of, defScope s_law_of, [], []⟩
def d_row_led : He.DefD := ⟨("row_led", none), "row_led", "row_led", defArgs s_row_led, defBody s_row_led, defScope s_row_led, [], []⟩
def d_law_mixed : He.DefD := ⟨("_law_mixed", none), "_law_mixed", "_law_mixed", defArgs s_law_mixed, defBody s_law_mixed, defScope s_law_mixed, [], []⟩
def d_law_signed : He.DefD := ⟨("_law_signed", none), "_law_signed", "_law_signed", defArgs s_law_signed, defBody s_law_signed, defScope s_law_signed, [], []⟩
def d_maps_followed : He.DefD := ⟨("maps_followed", none), "maps_followed", "maps_followed", defArgs s_maps_followed, defBody s_maps_followed, defScope s_maps_followed, [], []⟩
def d_map_back : He.DefD := ⟨("map_back", none), "map_back", "map_back", defArgs s_map_back, defBody s_map_back, defScope s_map_back, [], []⟩
def d_law_led : He.DefD := ⟨("_law_led", none), "_law_led", "_law_led", defArgs s_law_led, defBody s_law_led, defScope s_law_led, [], []⟩
def d_is_whole : He.DefD := ⟨("is_whole", none), "is_whole", "is_whole", defArgs s_is_whole, defBody s_is_whole, defScope s_is_whole, [], []⟩
def d_is_whole_row : He.DefD := ⟨("is_whole_row", none), "is_whole_row", "is_whole_row", defArgs s_is_whole_row, defBody s_is_whole_row, defScope s_is_whole_row, [], []⟩
def d_is_signed_map : He.DefD := ⟨("is_signed_map", none), "is_signed_map", "is_signed_map", defArgs s_is_signed_map, defBody s_is_signed_map, defScope s_is_signed_map, [], []⟩
def d_law_whole : He.DefD := ⟨("_law_whole", none), "_law_whole", "_law_whole", defArgs s_law_whole, defBody s_law_whole, defScope s_law_whole, [], []⟩
def d_law_is_signed : He.DefD := ⟨("_law_is_signed", none), "_law_is_signed", "_law_is_signed", defArgs s_law_is_signed, defBody s_law_is_signed, defScope s_law_is_signed, [], []⟩
def d_law : He.DefD := ⟨("law", none), "law", "law", defArgs s_law, defBody s_law, defScope s_law, [], []⟩
def fnL : List He.DefD := [d_law_source, d_law_pick, d_law_of, d_row_led, d_law_mixed, d_law_signed, d_maps_followed, d_map_back, d_law_led, d_is_whole, d_is_whole_row, d_is_signed_map, d_law_whole, d_law_is_signed, d_law]
def faL : List He.Fa := [.glo "_law_source", .glo "_law_pick", .glo "_law_of", .glo "row_led", .glo "_law_mixed", .glo "_law_signed", .glo "maps_followed", .glo "map_back", .glo "_law_led", .glo "is_whole", .glo "is_whole_row", .glo "is_signed_map", .glo "_law_whole", .glo "_law_is_signed", .glo "law", .free "abs", .free "all", .free "bool", .free "enumerate", .free "int", .free "isinstance", .free "len", .free "list", .free "max", .free "range", .free "repr", .free "sorted", .free "sum", .free "tuple", .free "zip"]
def nmL : List Str := ["is_whole", "is_whole_row", "is_signed_map", "row_led", "map_back", "maps_followed", "_law_source", "_law_pick", "_law_of", "_law_mixed", "_law_frame", "_law_called", "_law_brings", "_law_pieces", "_law_tree", "_law_own_rings", "_law_way", "_law_led", "_law_is_of_rings", "_law_signed", "_law_whole", "_law_is_signed"]
abbrev R : PySem.W.OpenRow := PySem.W.OpenLaw.row PySem.Challenge.rw_flowlattices_k46_signed_maps
abbrev hk : PySem.W.Hook := He.hookD 4 faL fnL
def ob (s : PySem.W.SharedT) : He.AlD := He.obsDG 4 faL fnL (HandSHeadRun.getT s)
theorem ob_eq (s : PySem.W.SharedT) : ob s = hk.obs s.abs := He.obsDG_eq (HandSHeadRun.getT_eq s)
theorem run (w : World) : HandSHeadRun.RunEq R (PySem.W.view R.prog [25]) hk ob 980 nmL w := by
  intro os
  kernel_rfl
theorem facts {P : Program} {w : World} {K : PySem.W.Frag} {h : Heap} {mg : Str → Option Value} {f : Addr} (X : K.In h) (G : h.Ns mainGlobals mg) (hfa : mg ("law" : Str) = some (.ref f)) (c : He.SaysD faL fnL K) :
    ∃ fd : FuncData, (∀ (s : Shared) (v : Value), BindsTo s fd ⟨[v], []⟩ [("script", v)]) ∧ ∀ base : Heap, K.In base → base.Ns mainGlobals mg → FnG P w K mg base 4 f fd ["script"] (spLaw K) := by
  obtain ⟨e_law_source, F_law_source⟩ := c.def_ 0 (d := d_law_source) rfl
  obtain ⟨e_law_pick, F_law_pick⟩ := c.def_ 1 (d := d_law_pick) rfl
  obtain ⟨e_law_of, F_law_of⟩ := c.def_ 2 (d := d_law_of) rfl
  obtain ⟨e_row_led, F_row_led⟩ := c.def_ 3 (d := d_row_led) rfl
  obtain ⟨e_law_mixed, F_law_mixed⟩ := c.def_ 4 (d := d_law_mixed) rfl
  obtain ⟨e_law_signed, F_law_signed⟩ := c.def_ 5 (d := d_law_signed) rfl
  obtain ⟨e_maps_followed, F_maps_followed⟩ := c.def_ 6 (d := d_maps_followed) rfl
  obtain ⟨e_map_back, F_map_back⟩ := c.def_ 7 (d := d_map_back) rfl
  obtain ⟨e_law_led, F_law_led⟩ := c.def_ 8 (d := d_law_led) rfl
  obtain ⟨e_is_whole, F_is_whole⟩ := c.def_ 9 (d := d_is_whole) rfl
  obtain ⟨e_is_whole_row, F_is_whole_row⟩ := c.def_ 10 (d := d_is_whole_row) rfl
  obtain ⟨e_is_signed_map, F_is_signed_map⟩ := c.def_ 11 (d := d_is_signed_map) rfl
  obtain ⟨e_law_whole, F_law_whole⟩ := c.def_ 12 (d := d_law_whole) rfl
  obtain ⟨e_law_is_signed, F_law_is_signed⟩ := c.def_ 13 (d := d_law_is_signed) rfl
  obtain ⟨e_law, F_law⟩ := c.def_ 14 (d := d_law) rfl
  have e := hfa.symm.trans (He.glo_ok X G (c.fact 14 (f := .glo "law") rfl))
  cases e
  have m_law_source := He.glo_ok X G (c.fact 0 (f := .glo "_law_source") rfl)
  have b_law_source : Binds K e_law_source ["script"] [] := FunD.bindsN F_law_source fun _ _ _ _ _ _ us hl => match us, hl with | [_], _ => rfl
  have m_law_pick := He.glo_ok X G (c.fact 1 (f := .glo "_law_pick") rfl)
  have b_law_pick : Binds K e_law_pick ["source", "many"] [] := FunD.bindsN F_law_pick fun _ _ _ _ _ _ us hl => match us, hl with | [_, _], _ => rfl
  have m_law_of := He.glo_ok X G (c.fact 2 (f := .glo "_law_of") rfl)
  have b_law_of : Binds K e_law_of ["source", "some"] [] := FunD.bindsN F_law_of fun _ _ _ _ _ _ us hl => match us, hl with | [_, _], _ => rfl
  have m_row_led := He.glo_ok X G (c.fact 3 (f := .glo "row_led") rfl)
  have b_row_led : Binds K e_row_led ["signed", "row"] [] := FunD.bindsN F_row_led fun _ _ _ _ _ _ us hl => match us, hl with | [_, _], _ => rfl
  have m_law_mixed := He.glo_ok X G (c.fact 4 (f := .glo "_law_mixed") rfl)
  have b_law_mixed : Binds K e_law_mixed ["source", "some"] [] := FunD.bindsN F_law_mixed fun _ _ _ _ _ _ us hl => match us, hl with | [_, _], _ => rfl
  have m_law_signed := He.glo_ok X G (c.fact 5 (f := .glo "_law_signed") rfl)
  have b_law_signed : Binds K e_law_signed ["source", "many"] [] := FunD.bindsN F_law_signed fun _ _ _ _ _ _ us hl => match us, hl with | [_, _], _ => rfl
  have m_maps_followed := He.glo_ok X G (c.fact 6 (f := .glo "maps_followed") rfl)
  have b_maps_followed : Binds K e_maps_followed ["one", "other"] [] := FunD.bindsN F_maps_followed fun _ _ _ _ _ _ us hl => match us, hl with | [_, _], _ => rfl
  have m_map_back := He.glo_ok X G (c.fact 7 (f := .glo "map_back") rfl)
  have b_map_back : Binds K e_map_back ["signed"] [] := FunD.bindsN F_map_back fun _ _ _ _ _ _ us hl => match us, hl with | [_], _ => rfl
  have m_law_led := He.glo_ok X G (c.fact 8 (f := .glo "_law_led") rfl)
  have b_law_led : Binds K e_law_led ["signed", "row"] [] := FunD.bindsN F_law_led fun _ _ _ _ _ _ us hl => match us, hl with | [_, _], _ => rfl
  have m_is_whole := He.glo_ok X G (c.fact 9 (f := .glo "is_whole") rfl)
  have b_is_whole : Binds K e_is_whole ["value"] [] := FunD.bindsN F_is_whole fun _ _ _ _ _ _ us hl => match us, hl with | [_], _ => rfl
  have m_is_whole_row := He.glo_ok X G (c.fact 10 (f := .glo "is_whole_row") rfl)
  have b_is_whole_row : Binds K e_is_whole_row ["many", "value"] [] := FunD.bindsN F_is_whole_row fun _ _ _ _ _ _ us hl => match us, hl with | [_, _], _ => rfl
  have m_is_signed_map := He.glo_ok X G (c.fact 11 (f := .glo "is_signed_map") rfl)
  have b_is_signed_map : Binds K e_is_signed_map ["many", "value"] [] := FunD.bindsN F_is_signed_map fun _ _ _ _ _ _ us hl => match us, hl with | [_, _], _ => rfl
  have m_law_whole := He.glo_ok X G (c.fact 12 (f := .glo "_law_whole") rfl)
  have b_law_whole : Binds K e_law_whole ["value"] [] := FunD.bindsN F_law_whole fun _ _ _ _ _ _ us hl => match us, hl with | [_], _ => rfl
  have m_law_is_signed := He.glo_ok X G (c.fact 13 (f := .glo "_law_is_signed") rfl)
  have b_law_is_signed : Binds K e_law_is_signed ["many", "value"] [] := FunD.bindsN F_law_is_signed fun _ _ _ _ _ _ us hl => match us, hl with | [_, _], _ => rfl
  have b := FunD.bindsA (ps := ["script"]) F_law fun _ _ _ _ _ _ us hl => match us, hl with | [_], _ => rfl
  have T : Txt mg := ⟨He.free_ok X G (c.fact 15 (f := .free "abs") rfl), He.free_ok X G (c.fact 16 (f := .free "all") rfl), He.free_ok X G (c.fact 17 (f := .free "bool") rfl), He.free_ok X G (c.fact 18 (f := .free "enumerate") rfl), He.free_ok X G (c.fact 19 (f := .free "int") rfl), He.free_ok X G (c.fact 20 (f := .free "isinstance") rfl), He.free_ok X G (c.fact 21 (f := .free "len") rfl), He.free_ok X G (c.fact 22 (f := .free "list") rfl), He.free_ok X G (c.fact 23 (f := .free "max") rfl), He.free_ok X G (c.fact 24 (f := .free "range") rfl), He.free_ok X G (c.fact 25 (f := .free "repr") rfl), He.free_ok X G (c.fact 26 (f := .free "sorted") rfl), He.free_ok X G (c.fact 27 (f := .free "sum") rfl), He.free_ok X G (c.fact 28 (f := .free "tuple") rfl), He.free_ok X G (c.fact 29 (f := .free "zip") rfl)⟩
  refine ⟨e_law, fun s v => b s [v] rfl, fun base _ _ => ?_⟩
  have k_law_source : FnG P w K mg base 1 _ e_law_source _ _ := ok_law_source T F_law_source
  have k_law_pick : FnG P w K mg base 1 _ e_law_pick _ _ := ok_law_pick T F_law_pick
  have k_law_of : FnG P w K mg base 2 _ e_law_of _ _ := ok_law_of T F_law_of ⟨k_law_pick, m_law_pick, F_law_pick.kp, b_law_pick⟩
  have k_row_led : FnG P w K mg base 1 _ e_row_led _ _ := ok_row_led T F_row_led
  have k_law_mixed : FnG P w K mg base 2 _ e_law_mixed _ _ := ok_law_mixed T F_law_mixed ⟨k_law_pick, m_law_pick, F_law_pick.kp, b_law_pick⟩
  have k_law_signed : FnG P w K mg base 3 _ e_law_signed _ _ := ok_law_signed T F_law_signed ⟨k_law_mixed, m_law_mixed, F_law_mixed.kp, b_law_mixed⟩ ⟨k_law_pick, m_law_pick, F_law_pick.kp, b_law_pick⟩
  have k_maps_followed : FnG P w K mg base 1 _ e_maps_followed _ _ := ok_maps_followed T F_maps_followed
  have k_map_back : FnG P w K mg base 2 _ e_map_back _ _ := ok_map_back T F_map_back ⟨k_row_led, m_row_led, F_row_led.kp, b_row_led⟩
  have k_law_led : FnG P w K mg base 1 _ e_law_led _ _ := ok_law_led T F_law_led
  have k_is_whole : FnG P w K mg base 1 _ e_is_whole _ _ := ok_is_whole T F_is_whole
  have k_is_whole_row : FnG P w K mg base 2 _ e_is_whole_row _ _ := ok_is_whole_row T F_is_whole_row ⟨k_is_whole, m_is_whole, F_is_whole.kp, b_is_whole⟩
  have k_is_signed_map : FnG P w K mg base 3 _ e_is_signed_map _ _ := ok_is_signed_map T F_is_signed_map ⟨k_is_whole_row, m_is_whole_row, F_is_whole_row.kp, b_is_whole_row⟩
  have k_law_whole : FnG P w K mg base 1 _ e_law_whole _ _ := ok_law_whole T F_law_whole
  have k_law_is_signed : FnG P w K mg base 2 _ e_law_is_signed _ _ := ok_law_is_signed T F_law_is_signed ⟨k_law_whole, m_law_whole, F_law_whole.kp, b_law_whole⟩
  exact ok_law T F_law ⟨k_law_is_signed, m_law_is_signed, F_law_is_signed.kp, b_law_is_signed⟩ ⟨k_law_led, m_law_led, F_law_led.kp, b_law_led⟩ ⟨k_law_of, m_law_of, F_law_of.kp, b_law_of⟩ ⟨k_law_pick, m_law_pick, F_law_pick.kp, b_law_pick⟩ ⟨k_law_signed, m_law_signed, F_law_signed.kp, b_law_signed⟩ ⟨k_law_source, m_law_source, F_law_source.kp, b_law_source⟩ ⟨k_is_signed_map, m_is_signed_map, F_is_signed_map.kp, b_is_signed_map⟩ ⟨k_map_back, m_map_back, F_map_back.kp, b_map_back⟩ ⟨k_maps_followed, m_maps_followed, F_maps_followed.kp, b_maps_followed⟩ ⟨k_row_led, m_row_led, F_row_led.kp, b_row_led⟩ law_true
end DL.G
open PySem PySem.W PySem.Calls PyProof.Rows
set_option maxRecDepth 100000 in
set_option maxHeartbeats 0 in
theorem PySem.Challenge.cw_flowlattices_k46_signed_maps_holds : PySem.Challenge.rw_flowlattices_k46_signed_maps.Holds := by
  w_on; o_law
  refine HandSHeadRun.head_any (r := OpenLaw.row PySem.Challenge.rw_flowlattices_k46_signed_maps) (q := view (OpenLaw.row PySem.Challenge.rw_flowlattices_k46_signed_maps).prog [25]) (H := DL.G.hk) (ob := DL.G.ob) (M := 980) (loose := DL.G.nmL) (d := HandSHeadRun.topDef (OpenLaw.row PySem.Challenge.rw_flowlattices_k46_signed_maps).prog 25) (kwd := []) DL.G.ob_eq
    (by kernel_rfl) (fun s => by kernel_rfl) DL.G.run (by kernel_rfl) (by kernel_rfl) (by kernel_rfl) (by rfl) (by first | assumption | decide +kernel) (by decide +kernel) ⟨rfl, rfl, rfl, rfl, rfl, by decide +kernel⟩ ?hw ?hc
  case hw => w_witness2
  case hc =>
    refine DL.walkG (l := PySem.Challenge.rw_flowlattices_k46_signed_maps) (k := 4) (x := "script") rfl (by kernel_rfl) ⟨rfl, by decide, by decide⟩ ?F
    intro w mg fa h Y G hmg0
    obtain ⟨K, KX, c⟩ := Y
    have hmg : mg ("law" : PySem.Str) = some (.ref fa) := by
      have e : (HandSHeadRun.topDef (OpenLaw.row PySem.Challenge.rw_flowlattices_k46_signed_maps).prog 25).name = ("law" : PySem.Str) := by kernel_rfl
      rw [← e]
      exact hmg0
    obtain ⟨fd, hb, hF⟩ := DL.G.facts (P := PySem.Challenge.rw_flowlattices_k46_signed_maps.prog) (w := w) KX G hmg c
    exact ⟨K, fd, KX, hb, hF⟩
