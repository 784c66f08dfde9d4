import PyProof.Rows.All
import Wide.All
import OpenK.AllK
import Wide.FinOn
import HandS.HotCalls
import HandS.Zip
import HandS.IsInst
import HandS.Lambda
import HandS.EndTab
import HandS.ForMost
import HandS.TupAny
import HandS.TupMul
import HandS.Deep
import HandS.Wide
import HandS.Style
import HandS.Flow
import KE.GoesEnum
import KE.GoesZip
import KE.GoesMore
import HandS.TupLe
import HandS.SetFor
import HandS.Strs
import HandS.Conv
import HandS.WordsDict
import HandS.ExcIs
import HandS.Text
import HandS.ExcField
import HandS.ExcInit
import KE.KExcIs
import HandS.Codes
import PyProof.InstEq
import HandS.MakeKwOnly
import KE.KNestM
import PySem.Challenge.RW_framecount_k41_whole_a_bench_deed_by_dee
set_option Elab.async false
set_option linter.all false
set_option exponentiation.threshold 400
set_option maxRecDepth 100000
set_option maxHeartbeats 0
/-! EXa: iterators that end while an exception is handled. -/
namespace EX
open PySem PySem.Spec PyProof.Rows HotX
section
variable {prog : Program} {w : World} {A : Around} {E : Value → Shared → Prop} {s : Shared}
theorem stop_hot {α : Type} {x1 : Addr} {Q : α → Shared → Prop} (hot : HotAt A x1 s.heap) (k : ∀ h' e, (∀ b o, s.heap.get? b = some o → h'.get? b = some o) → (∃ o, h'.get? e = some o ∧ o.cls = .type "StopIteration") → E (.ref e) { s with heap := h' }) :
    wpAny (model prog w) A (newExc (.type "StopIteration") [] >>= fun e => (raiseNew e : Sem α)) Q E s := by
  obtain ⟨ha, ob, us, g1, g2, g3⟩ := hot
  refine wpAny_bind ?_; simp only [newExc, newTuple]
  refine wpAny_bind (wpAny_newObj_type (wpAny_bind (m := firstArgMember _ _) (wpAny_of_eq (a := Value.none) (by first | rfl | (simp only [firstArgMember]; rfl)) (wpAny_newObj_type ?_ (by size_fits)))) (by size_fits))
  refine raiseNew_hot ⟨ha, ob, us, Heap.get?_push_of_some _ (Heap.get?_push_of_some _ g1), g2, g3⟩ (Nat.ne_of_lt (Heap.lt_size (Heap.get?_push_of_some _ g1))) (Heap.get?_push_size _ rfl) rfl (by first | (simp; done) | (simp; omega)) (k _ _ (fun b o e => ?_) ⟨_, Heap.get?_update_self _ (Heap.get?_push_size _ rfl) rfl, rfl⟩)
  rw [Heap.get?_update_other _ _ (Nat.ne_of_gt (Heap.lt_size (Heap.get?_push_of_some _ e)))]; exact Heap.get?_push_of_some _ (Heap.get?_push_of_some _ e)
theorem hot_sub {x1 : Addr} {h h' : Heap} {it : Addr} (hot : HotAt A x1 h) (ne : x1 ≠ it) (e : Heap.ExtBut it h h') : HotAt A x1 h' := by
  obtain ⟨ha, ob, us, g1, g2, g3⟩ := hot
  exact ⟨ha, ob, us, e x1 ob ne g1, g2, g3⟩
theorem hot_in {x1 : Addr} {h : Heap} (hot : HotAt A x1 h) : HotAt A.in1 x1 h := hot
/-- the next item of a list's iterator: none -/
theorem nextOf_end_hot {it l x1 : Addr} {i : Nat} {items : Array Value} {Q : Value → Shared → Prop} (hot : HotAt A x1 s.heap) (ne : x1 ≠ it) (hit : s.heap.IsListIter it l i) (hl : s.heap.IsList l items) (hx : items[i]? = none)
    (k : ∀ h' e, (∀ b o, b ≠ it → s.heap.get? b = some o → h'.get? b = some o) → (∃ o, h'.get? e = some o ∧ o.cls = .type "StopIteration") → E (.ref e) { s with heap := h' }) :
    wpAny (model prog w) A (Builtin.SmallTypes.nextOf (.ref it)) Q E s := by
  obtain ⟨oi, g1, _, g2⟩ := id hit
  obtain ⟨ol, g3, _, nl, g4⟩ := hl
  unfold Builtin.SmallTypes.nextOf
  refine wpAny_bind (wpAny_callSpecial?_slot (name := Str.ofString "__next__") hit.typeIs slot_listiter_next (wpAny_call_entry slot_listiter_next hit.typeIs entry_listiter_next ?_ (args_listiter_next _)))
  show wpAny _ _ (field (.ref it) 0 >>= _) _ _ s; refine wpAny_bind (wpAny_field g1 g2 (x := .ref l) rfl ?_)
  show wpAny _ _ (if (Value.ref l == Value.none) = true then _ else _) _ _ s; rw [if_neg (show ¬ ((Value.ref l == Value.none) = true) from Bool.false_ne_true)]
  show wpAny _ _ (field (.ref it) 1 >>= _) _ _ s; refine wpAny_bind (wpAny_field g1 g2 (x := .int i 0) rfl (wpAny_bind (wpAny_seqItems g3 g4 ?_)))
  simp only [Int.toNat_natCast, hx]
  refine wpAny_bind (wpAny_rule (wpAny_bind (wpAny_setField g1 g2 (by simp) ?_)))
  refine stop_hot (hot_sub hot ne (Heap.SameBut.update ..).extBut) fun h' e hk he => k h' e (fun b o hb q => hk b o ((Heap.SameBut.update ..).extBut b o hb q)) he
end
end EX
/-! EXb: zip's end and a pair taken apart, while an exception is handled. -/
namespace EX
open PySem PySem.Spec PyProof.Rows HotX
section
variable {prog : Program} {w : World} {A : Around} {E : Value → Shared → Prop} {s : Shared}
theorem zipNext_end_hot {z TI TO i1 i2 l1 l2 x1 : Addr} {k1 : Nat} {xs : Array Value} {Q : Fin → Shared → Prop} (hot : HotAt A x1 s.heap) (nz : x1 ≠ z) (ni : x1 ≠ i1) (D : ZipApart z TI TO i1 i2 l1 l2) (hz : IsZip s.heap z TI TO .none) (hTI : IsPair s.heap TI (.ref i1) (.ref i2))
    (h1 : s.heap.IsListIter i1 l1 k1) (hl1 : s.heap.IsList l1 xs) (hend : xs[k1]? = none)
    (k : ∀ h' e, (∀ c o, c ≠ z → c ≠ i1 → s.heap.get? c = some o → h'.get? c = some o) → (∃ o, h'.get? e = some o ∧ o.cls = .type "StopIteration") → E (.ref e) { s with heap := h' }) :
    wpAny (model prog w) A (Builtin.«zip.__next__» ⟨[.ref z], []⟩) Q E s := by
  show wpAny _ _ (field (.ref z) 2 >>= _) _ _ _; refine wpAny_bind (wpAny_field hz rfl (x := .bool false) rfl ?_)
  show wpAny _ _ (field (.ref z) 3 >>= _) _ _ _; refine wpAny_bind (wpAny_field hz rfl (x := .ref TI) rfl (wpAny_bind (wpAny_seqItems hTI rfl ?_)))
  show wpAny _ _ (Builtin.SmallTypes.ownedTupleIsFree (.ref z) >>= _) _ _ _; refine wpAny_bind ?_; unfold Builtin.SmallTypes.ownedTupleIsFree
  refine wpAny_bind (wpAny_field hz rfl (x := .none) rfl (wpAny_pure ?_)); simp only [if_true]
  refine wpAny_bind (wpAny_rule (wpAny_bind (wpAny_field hz rfl (x := .ref TO) rfl (wpAny_bind (wpAny_setField_rec hz (by simp) fun ha za sa => wpAny_bind ?_)))))
  simp only [List.zipIdx_cons, List.zipIdx_nil, List.forIn_cons, List.forIn_nil]
  refine wpAny_bind (wpAny_bind (wpAny_onRaise ?_)); show wpAny _ _ (Builtin.SmallTypes.nextOf (.ref i1) >>= _) _ _ _
  refine wpAny_bind (nextOf_end_hot (x1 := x1) (hot_sub hot nz sa.extBut) ni (h1.extBut sa.extBut D.i1z) (hl1.extBut sa.extBut D.l1z) hend fun hb e kb he => ?_)
  obtain ⟨oe, he1, he2⟩ := he
  have zb : IsZip hb z TI TO .ellipsis := kb _ _ D.i1z.symm za
  have ne : e ≠ z := fun q => by
    rw [q, zb] at he1
    cases he1
    simp at he2
  exact wpAny_setField_rec zb (by simp) fun hc _ sc => k hc e (fun c o c1 c2 q => sc.extBut _ _ c1 (kb _ _ c2 (sa.extBut _ _ c1 q))) ⟨oe, sc.extBut _ _ ne he1, he2⟩
theorem pyNext_zip_end_hot {z TI TO i1 i2 l1 l2 x1 : Addr} {k1 : Nat} {xs : Array Value} {Q : Option Value → Shared → Prop} (hot : HotAt A x1 s.heap) (nz : x1 ≠ z) (ni : x1 ≠ i1) (D : ZipApart z TI TO i1 i2 l1 l2) (hz : IsZip s.heap z TI TO .none) (hTI : IsPair s.heap TI (.ref i1) (.ref i2))
    (h1 : s.heap.IsListIter i1 l1 k1) (hl1 : s.heap.IsList l1 xs) (hend : xs[k1]? = none)
    (k : ∀ h', (∀ c o, c ≠ z → c ≠ i1 → s.heap.get? c = some o → h'.get? c = some o) → Q none { s with heap := h' }) : wpAny (model prog w) A (pyNext (.ref z)) Q E s := by
  have hT : s.TypeIs (.ref z) "zip" := ⟨_, hz, rfl⟩
  unfold pyNext
  refine wpAny_bind (wpAny_attempt (wpAny_callSpecial?_slot (name := Str.ofString "__next__") hT F.slot_zip_next (wpAny_call_entry F.slot_zip_next hT F.entry_zip_next (zipNext_end_hot (x1 := x1) (hot_in hot) nz ni D hz hTI h1 hl1 hend fun h' e hk he => ?_) (F.args_zip_next_1 _))))
  obtain ⟨o, g1, g2⟩ := he
  exact wpAny_bind (wpAny_isInstance (T := "StopIteration") (b := true) ⟨o, g1, g2⟩ isSubtype_stop (wpAny_pure (k _ hk)))
/-- a tuple's iterator at its end -/
theorem tupNext_end_hot {it t x1 : Addr} {i : Nat} {items : Array Value} {Q : Option Value → Shared → Prop} (hot : HotAt A x1 s.heap) (ne : x1 ≠ it) (hit : IsTupIter s.heap it t i) (ht : IsTup s.heap t items) (hx : items[i]? = none)
    (k : ∀ h', Heap.ExtBut it s.heap h' → Q none { s with heap := h' }) : wpAny (model prog w) A (pyNext (.ref it)) Q E s := by
  obtain ⟨oi, g1, _, g2⟩ := id hit
  obtain ⟨ol, g3, _, nl, g4⟩ := ht
  unfold pyNext
  refine wpAny_bind (wpAny_attempt (wpAny_callSpecial?_slot (name := Str.ofString "__next__") hit.typeIs slot_tupleiter_next (wpAny_call_entry slot_tupleiter_next hit.typeIs entry_tupleiter_next ?_ (args_tupleiter_next _))))
  show wpAny _ _ (field (.ref it) 0 >>= _) _ _ s; refine wpAny_bind (wpAny_field g1 g2 (x := .ref t) rfl ?_)
  show wpAny _ _ (if (Value.ref t == Value.none) = true then _ else _) _ _ s; rw [if_neg (show ¬ ((Value.ref t == Value.none) = true) from Bool.false_ne_true)]
  show wpAny _ _ (field (.ref it) 1 >>= _) _ _ s; refine wpAny_bind (wpAny_field g1 g2 (x := .int i 0) rfl (wpAny_bind (wpAny_seqItems g3 g4 ?_)))
  simp only [Int.toNat_natCast, hx]
  refine wpAny_bind (wpAny_rule (wpAny_bind (wpAny_setField g1 g2 (by simp) ?_)))
  refine stop_hot (hot_sub (hot_in hot) ne (Heap.SameBut.update ..).extBut) fun h' e hk he => ?_
  obtain ⟨o, q1, q2⟩ := he
  exact wpAny_bind (wpAny_isInstance (T := "StopIteration") (b := true) ⟨o, q1, q2⟩ isSubtype_stop (wpAny_pure (k _ fun b o hb q => hk b o ((Heap.SameBut.update ..).extBut b o hb q))))
theorem unpack_hot {t x1 : Addr} {items : Array Value} {env : Env} {elts : List Expr} {pos : Pos} {kk : Nat} {Q : Unit → Shared → Prop} (hot : HotAt A x1 s.heap) (ht : IsTup s.heap t items) (hn : (assignEach elts env).length = items.size) (hstar : (assignEach elts env).findIdx? (·.1) = none)
    (k : ∀ h', Heap.ExtBut s.heap.objs.size s.heap h' → wpAny (model prog w) A (assignInOrder ((assignEach elts env).map (·.2)) items.toList) Q E { s with heap := h' }) :
    wpAny (model prog w) A (assign (.Tuple elts kk pos) env (.ref t)) Q E s := by
  have tl : t ≠ s.heap.objs.size := by obtain ⟨o, q, _⟩ := ht; exact Nat.ne_of_lt (Heap.lt_size q)
  have xl : x1 ≠ s.heap.objs.size := by obtain ⟨_, o, _, q, _⟩ := hot; exact Nat.ne_of_lt (Heap.lt_size q)
  rw [assign_Tuple]
  refine wpAny_bind (wpAny_standAt ?_)
  unfold unpack
  rw [hn, hstar]
  refine wpAny_bind (wpAny_holding ?_)
  unfold unpackItems
  refine wpAny_bind ?_
  unfold notIterableAtAll
  refine wpAny_bind (wpAny_specialOf ht.typeIs slot_tuple_iter.lookup (wpAny_pure ?_))
  simp only [Bool.false_eq_true, if_false]
  refine wpAny_bind (wpAny_holding (iter_tuple ht (wpAny_bind (wpAny_holding (draw_tuple tl items.size 0 _ _ ⟨_, Heap.get?_push_size _ rfl, rfl, rfl⟩ (ht.push _) (by omega) fun ha ia sa => ?_)))))
  have al : List.take items.size (List.drop 0 items.toList) = items.toList := by rw [List.drop_zero]; exact List.take_of_length_le (by simp)
  rw [al, if_neg (by simp)]
  have ta : IsTup ha t items := (ht.push _).extBut sa.extBut tl
  have hota : HotAt A x1 ha := by
    obtain ⟨q1, ob, us, q2, q3, q4⟩ := hot
    exact ⟨q1, ob, us, sa.extBut _ _ xl (Heap.get?_push_of_some _ q2), q3, q4⟩
  refine wpAny_bind (wpAny_holding (tupNext_end_hot (x1 := x1) hota xl ia ta (by simp) fun hb eb => ?_))
  simp only [Option.isSome_none, Bool.false_eq_true, if_false]
  exact wpAny_pure (k hb fun b o hb' q => eb b o hb' (sa.extBut b o hb' (Heap.get?_push_of_some _ q)))
end
end EX
/-! EXc: pairs, zip and comprehensions, while an exception is handled. -/
namespace EX
open PySem PySem.Spec PyProof.Rows L2 HotX L2H
theorem hot_at {X : Cx} {pins : List (Addr × Obj)} {σ : L2.St} {H : Hp} {s : Shared} (hc : HotC X) (I : Inv X pins σ H s) : ∃ p : Addr × Obj, p ∈ X.pn ∧ HotAt X.A p.1 s.heap := by
  obtain ⟨p, ⟨g1, us, g2, g3⟩, hp⟩ := hc
  exact ⟨p, hp, g1, p.2, us, (I.pin p (List.mem_append_left _ hp)).1, g2, g3⟩
section
variable {X : Cx} {pos : Pos}
theorem pg_tupH {es : List Expr} {k : Nat} {t : TGs} {n : Nat} (hc : HotC X) (h : PGs X es t) (hn : (assignEach es X.env).length = n := by rfl) (hst : (assignEach es X.env).findIdx? (·.1) = none := by rfl) : PG X (.Tuple es k pos) (gTup X.K n t) := by
  refine ⟨fun pins s σ H v u Q I r hw => ?_⟩
  obtain ⟨a, xs, rfl, hq, hl, hw⟩ := hw
  obtain rfl : u = Value.ref a := r
  obtain ⟨its, rv, ht, _⟩ := I.tuple hq
  obtain ⟨p, hp, hot⟩ := hot_at hc I
  have hsz : (assignEach es X.env).length = its.toArray.size := by rw [hn, ← hl, List.size_toArray, rv.length]
  refine unpack_hot (x1 := p.1) hot ht hsz hst fun h' hx => ?_
  have J : Inv X pins σ H { s with heap := h' } := I.kept (t' := s.toks) fun b o e => hx b o (Nat.ne_of_lt (Heap.lt_size e)) e
  exact h.run pins _ σ H xs _ Q J (by simpa using rv) hw
theorem turn_zipH {P : Program} {w : World} {K : PySem.W.Frag} {elts : List Expr} {kk : Nat} {tpos : Pos} {a b z TI TO i1 i2 : Addr} (D : ZipApart z TI TO i1 i2 a b) :
    TurnH P w K (.Tuple elts kk tpos) ⟨(Itz K a b).go, (Itz K a b).yld, fun i H => ∃ xs, SqL K H a xs ∧ xs.length ≤ i⟩ [z, TI, TO, i1, i2] z (fun i h => IsZip h z TI TO .none ∧ IsPair h TI (.ref i1) (.ref i2) ∧ (∃ x y, IsPair h TO x y) ∧ h.IsListIter i1 a i ∧ h.IsListIter i2 b i) where
  mem := List.mem_cons_self
  obj := (turn_zip (P := P) (w := w) (K := K) (elts := elts) (kk := kk) (tpos := tpos) D).obj
  keep := (turn_zip (P := P) (w := w) (K := K) (elts := elts) (kk := kk) (tpos := tpos) D).keep
  item := by
    intro X hP hw hK hc i pins s σ H E I hf st hg
    subst hP hw hK
    obtain ⟨hz, hTI, ⟨u0, v0, hTO⟩, h1, h2⟩ := st
    obtain ⟨xs, ys, x, y, qx, qy, ex, ey⟩ := hg
    obtain ⟨its, rv, pa, _⟩ := I.list qx
    obtain ⟨jts, rw', pb, _⟩ := I.list qy
    obtain ⟨u, hu, ru⟩ := rv.get ex
    obtain ⟨v, hv, rv2⟩ := rw'.get ey
    refine wpAny_pyNext_zip_item D hz hTI hTO h1 h2 pa.isList pb.isList (x := u) (y := v) (by simpa using hu) (by simpa using hv) fun h' za ta ia ja na _ ka => ⟨_, rfl, wpAny_letOwnedTupleGo_zip (s := { s with heap := h' }) za fun h'' zb sb => ?_⟩
    have zl : z < s.heap.objs.size := Heap.lt_size hz
    have nb : h''.get? s.heap.objs.size = some { cls := .type "tuple", data := .seq #[u, v] } := (sb.2 _ (Nat.ne_of_gt zl)).trans na
    have fpl : ∀ c ∈ [z, TI, TO, i1, i2], c < s.heap.objs.size := fun c hcm => by
      obtain ⟨o, e, _⟩ := (turn_zip (P := X.prog) (w := X.w) (K := X.K) (elts := elts) (kk := kk) (tpos := tpos) D).obj i s.heap ⟨hz, hTI, ⟨u0, v0, hTO⟩, h1, h2⟩ c hcm
      exact Heap.lt_size e
    have out : ∀ {c d : Addr}, c ∉ [z, TI, TO, i1, i2] → d ∈ [z, TI, TO, i1, i2] → c ≠ d := fun hc' hd e => hc' (by rw [e]; exact hd)
    have kept : ∀ c o, c ∉ [z, TI, TO, i1, i2] → s.heap.get? c = some o → h''.get? c = some o := fun c o hb q => (sb.2 c (out hb (by simp))).trans (ka c o (out hb (by simp)) (out hb (by simp)) (out hb (by simp)) (out hb (by simp)) q)
    have J := I.turnedNew (t' := s.toks) (h' := h'') (ob := .tup [x, y]) kept hf (Nat.le_refl _) ⟨by show 2 ≤ sizeLine; decide, [u, v], .cons ru (.cons rv2 .nil), ⟨_, nb, rfl, _, rfl⟩⟩
    exact ⟨.ref s.heap.objs.size, _, J, rfl, ⟨_, x, y, rfl, I.hok.fresh (Nat.le_refl _), rfl, fun l hl => by rw [I.list_inj hl qx]; exact ex, fun l hl => by rw [I.list_inj hl qy]; exact ey⟩, ⟨zb, (sb.2 _ D.TIz).trans (ka _ _ D.TIz D.TITO D.TIi1 D.TIi2 hTI), ⟨u, v, (sb.2 _ D.TOz).trans ta⟩, ia.at fun o q => (sb.2 _ D.i1z).trans q, ja.at fun o q => (sb.2 _ D.i2z).trans q⟩, fun c hcm => by
      rw [upd_ne (Nat.ne_of_lt (fpl c hcm))]; exact (hf c hcm).1⟩
  done := by
    intro X hP hw hK hc i pins s σ H E I hf st hg
    subst hP hw hK
    obtain ⟨hz, hTI, _, h1, _⟩ := st
    obtain ⟨xs, qx, hend⟩ := hg
    obtain ⟨its, rv, pa, _⟩ := I.list qx
    obtain ⟨p, hp, hot⟩ := hot_at hc I
    have np : ∀ c ∈ [z, TI, TO, i1, i2], p.1 ≠ c := fun c hcm => (hf c hcm).2.2.2.2.2 p (List.mem_append_left _ hp)
    have he : its.toArray[i]? = none := by have := rv.length; simp; omega
    exact pyNext_zip_end_hot (x1 := p.1) hot (np z (by simp)) (np i1 (by simp)) D hz hTI h1 pa.isList he fun h' hk => ⟨rfl, I.turnedL (t' := s.toks) (ch := [z, TI, TO, i1, i2]) (fun c o hb q => hk c o (fun e => hb (by simp [e])) (fun e => hb (by simp [e])) q) hf⟩
  self := fun A i s Q E st h => wpAny_pyIter_zip st.1 h
/-- zip(x, y), two lists -/
def iZipH (K : PySem.W.Frag) (ta : TA) : TI := fun σ H R => ta σ H fun vs H1 => ∃ a b xs ys, vs = [.ref a, .ref b] ∧ SqL K H1 a xs ∧ SqL K H1 b ys ∧ R ⟨(Itz K a b).go, (Itz K a b).yld, fun i H => ∃ xs, SqL K H a xs ∧ xs.length ≤ i⟩ H1
theorem pi_zipH {e e2 : Expr} {ta : TA} {p pos tpos : Pos} {elts : List Expr} {kk : Nat} (hg : Gl X "zip") (hm : X.mg "zip" = none) (ha : PA X [e, e2] ta) (hs : starEach [e, e2] X.env = (false, eval e X.env) :: starEach [e2] X.env := by rfl) (hpl : (backTo pos (starEach [e2] X.env)).any (·.1) = false := by rfl) :
    PIH X (.Tuple elts kk tpos) (.Call (.Name "zip" p) [e, e2] [] pos) (iZipH X.K ta) := by
  refine ⟨fun pins s σ H R I h => Call_ (ld_blt I hg hm PyProof.Rows.boot_zip (PyProof.Rows.callWith_type1 (thn (ha.run pos pins s σ H _ I h) fun us s1 ⟨vs, H1, I1, r1, q1⟩ => ?_) hs hpl))⟩
  obtain ⟨a, b, xs, ys, rfl, qx, qy, q⟩ := q1
  obtain ⟨u1, u2, rfl, ra, rb⟩ := vals2 r1
  obtain rfl : u1 = Value.ref a := ra
  obtain rfl : u2 = Value.ref b := rb
  obtain ⟨its, _, pa, _⟩ := I1.list qx
  obtain ⟨jts, _, pb, _⟩ := I1.list qy
  refine call_zip_2 pa.isList pb.isList fun h' hz hTI hTO h1 h2 _ hk => wpAny_pyIter_zip hz ?_
  refine ⟨_, [s1.heap.objs.size + 4, s1.heap.objs.size + 2, s1.heap.objs.size + 3, s1.heap.objs.size, s1.heap.objs.size + 1], _, _, H1, rfl, I1.kept (t' := s1.toks) hk, turn_zipH (PySem.W.ktu_apart s1.heap.objs.size a b pa.lt pb.lt), ⟨hz, hTI, ⟨_, _, hTO⟩, h1, h2⟩, fun c hcm => ?_, q⟩
  have hle : s1.heap.objs.size ≤ c := by
    simp only [List.mem_cons, List.not_mem_nil, or_false] at hcm
    rcases hcm with e | e | e | e | e <;> rw [e] <;> first | exact Nat.le_add_right _ _ | exact Nat.le_refl _
  exact I1.fpOk hle (I1.hok.fresh hle)
end
end EX
/-! EXd: a list comprehension, while an exception is handled. -/
namespace EX
open PySem PySem.Spec PyProof.Rows L2 HotX L2H
/-- the block's context, the handled exception in sight -/
abbrev blkH (X : Cx) (s : Shared) (H : Hp) (scope : Scope) (ce : Env) (fp : List Addr) (p : Addr × Obj) : Cx := (X.blk s H scope ce fp).tr [p] fun _ _ => False
theorem thnT {α : Type} {t : Sem α} {Q Q' : α → Shared → Prop} {M : Model} {A : Around} {E : Value → Shared → Prop} {s : Shared} (h : wpAny M A t Q (fun _ _ => False) s) (k : ∀ a s, Q a s → Q' a s) : wpAny M A t Q' E s := wpAny_mono h k fun _ _ z => z.elim
section
variable {X : Cx}
theorem pe_lcH {elt tg iter : Expr} {ifs : List Expr} {scope : Scope} {own : List (Str × Nat)} {pos : Pos} {wi : TI} {g : TG} {tt : TT} {te : TE} {p : Addr × Obj} (hp : p ∈ X.pn) (ho : Hot1 X.A p) (hN : X.N.Nodup) (hi : PIH X tg iter wi) (ok : BlkOk X.N X.env.scope scope own)
    (hg : ∀ (s : Shared) (H : Hp) (C : Addr) (cl : List (Str × Addr)) (fp : List Addr), PG (blkH X s H scope (compEnvC scope cl C X.env) fp p) tg g)
    (ht : ∀ (s : Shared) (H : Hp) (C : Addr) (cl : List (Str × Addr)) (fp : List Addr), PTs (blkH X s H scope (compEnvC scope cl C X.env) fp p) ifs tt)
    (he : ∀ (s : Shared) (H : Hp) (C : Addr) (cl : List (Str × Addr)) (fp : List Addr), PE (blkH X s H scope (compEnvC scope cl C X.env) fp p) elt te) (hs : ∀ x, foldedSetIterable iter X.env x = pure x := by intro _; rfl) :
    PE X (.ListComp elt [⟨tg, iter, ifs, 0⟩] scope pos) (tLc wi g tt te (own.map (·.2))) := by
  refine ⟨fun pins s σ H Q I h => ?_⟩
  rw [eval_ListComp]
  have fr : ∀ y ∈ scope.names, y.2 = .free → ∃ c, X.env.cells.lookup y.1 = some c := fun y hy e => (ok.free y hy e).elim (fun z => I.ok.has _ (.inl z)) fun z => I.ok.has _ (.inr z)
  refine wpAny_comprehension_free (use := none) rfl hs (closure_ok fr) ok.kind (fun y hy e => by rw [ok.uniq y hy, e]) (thn (hi.run pins s σ H _ I h) fun _ sa ha => thn ha fun itv sb hb => ?_)
  obtain ⟨it, fp, tn, J, H2, rfl, I2, T, t0, f2, q⟩ := hb
  refine wpAny_newObj_type (newEnv_comp ?_) (by show 0 ≤ sizeLine; decide)
  obtain ⟨L, eL⟩ : ∃ L, L = sb.heap.objs.size := ⟨_, rfl⟩
  rw [← eL]
  have nL : H2 L = none := I2.hok.fresh (Nat.le_of_eq eL.symm)
  obtain ⟨W, ⟨m0, w0⟩, turn⟩ := q L nL
  -- the new list stands
  obtain ⟨sc, esc⟩ : ∃ sc : Shared, sc = { sb with heap := sb.heap.push { cls := .type "list", data := .seq ([] : List Value).toArray } } := ⟨_, rfl⟩
  have hsc : sc.heap = sb.heap.push { cls := .type "list", data := .seq ([] : List Value).toArray } := by rw [esc]
  have I3 : Inv X pins σ (upd H2 L (.lst [])) sc := by
    rw [esc]
    exact I2.laid (t' := sb.toks) (fun b o e => Heap.get?_push_of_some _ e) (Nat.le_of_eq eL.symm) ⟨Nat.zero_le _, [], 0, .nil, by rw [eL]; exact Heap.get?_push_size _ rfl⟩
  have fsz : ∀ b ∈ fp, b < sb.heap.objs.size := fun b hb => let ⟨_, e, _⟩ := T.obj _ _ t0 b hb; Heap.lt_size e
  have f3 : ∀ b ∈ fp, FpOk X pins (upd H2 L (.lst [])) b ∧ b < sc.heap.objs.size := fun b hb => ⟨⟨by rw [upd_ne (by rw [eL]; exact Nat.ne_of_lt (fsz b hb))]; exact (f2 b hb).1, (f2 b hb).2⟩, by rw [hsc, Heap.size_push]; exact Nat.lt_succ_of_lt (fsz b hb)⟩
  have t3 : tn 0 sc.heap := T.keep _ _ _ t0 fun b _ o e => by rw [hsc]; exact Heap.get?_push_of_some _ e
  obtain ⟨pg1, pf1, _, pst1, pc1⟩ := I3.pin p (List.mem_append_left _ hp)
  have pnot : ∀ b ∈ fp, p.1 ≠ b := fun b hb => (f3 b hb).1.2.2.2.2.2 p (List.mem_append_left _ hp)
  have plt : p.1 < sc.heap.objs.size := Heap.lt_size pg1
  have pnf : p.1 ∉ frs X.stack := fun hm => (List.mem_cons.mp (I3.stkSub p.1 hm)).elim (I3.pin p (List.mem_append_left _ hp)).2.2.1 pst1
  have B := block_start I3 ok hN f3
  obtain ⟨H3, e3⟩ : ∃ H3, H3 = upd H2 L (.lst []) := ⟨_, rfl⟩
  rw [← e3] at I3 f3 B w0 pf1
  obtain ⟨ce, ece⟩ : ∃ ce, ce = compEnvC scope (cellsFrom (sc.heap.objs.size + 1) scope.names (cloFrom X.env.cells scope.names [])) sc.heap.objs.size X.env := ⟨_, rfl⟩
  have cL : ce.locals = sc.heap.objs.size := by rw [ece]; rfl
  obtain ⟨sd, esd⟩ : ∃ sd : Shared, sd = { sc with heap := pushCells (sc.heap.push { cls := .type "dict", data := .dict #[] }) scope.names } := ⟨_, rfl⟩
  have kd : ∀ b o, sc.heap.get? b = some o → sd.heap.get? b = some o := fun b o e => by rw [esd]; exact pushCells_keeps _ _ _ _ (Heap.get?_push_of_some _ e)
  have gg : PG (blkH X sc H3 scope ce fp p) tg g := by rw [ece]; exact hg _ _ _ _ _
  have gt : PTs (blkH X sc H3 scope ce fp p) ifs tt := by rw [ece]; exact ht _ _ _ _ _
  have ge : PE (blkH X sc H3 scope ce fp p) elt te := by rw [ece]; exact he _ _ _ _ _
  rw [← ece, ← esd] at B
  have B1 : Inv (X.blk sc H3 scope ce fp) [p] (wipe σ (own.map (·.2))) H3 sd := B.pins_of fun z hz => by
    rw [List.mem_singleton] at hz
    subst hz
    exact ⟨kd _ _ pg1, pf1, by rw [cL]; exact Nat.ne_of_lt plt, pnf, pc1⟩
  have Y0 : Inv (blkH X sc H3 scope ce fp p) [] (wipe σ (own.map (·.2))) H3 sd := B1.toTry _
  have hY : HotC (blkH X sc H3 scope ce fp p) := ⟨p, ho, List.mem_singleton.mpr rfl⟩
  have nfp : ∀ b ∈ fp, H3 b = none := fun b hb => (f3 b hb).1.1
  have t4 : tn 0 sd.heap := T.keep _ _ _ t3 fun b _ o e => kd b o e
  have stat : ∀ {σ' : L2.St} {H' : Hp} {s' : Shared}, Inv (blkH X sc H3 scope ce fp p) [] σ' H' s' → (∀ b ∈ fp, H' b = none) → ∀ b ∈ fp, FpOk (blkH X sc H3 scope ce fp p) [] H' b := fun {σ' H' s'} I' hn b hb =>
    ⟨hn b hb, (I'.ok.exf b hb).1, I'.ok.exfs b hb, .inl hb, fun x c e => (I'.ok.exf b hb).2 x c e, fun z hz => by
      rw [List.append_nil] at hz
      rw [List.mem_singleton.mp hz]; exact pnot b hb⟩
  rw [show ({ sb with heap := sb.heap.push { cls := .type "list", data := .seq ([] : List Value).toArray } } : Shared) = sc from esc.symm]
  show codeAny _ _ (.compStart (.ListComp elt [⟨tg, iter, ifs, 0⟩] scope pos) 0 (.ref it) (.ref L) (compEnvC scope (cellsFrom (sc.heap.objs.size + 1) scope.names (cloFrom X.env.cells scope.names [])) sc.heap.objs.size X.env)) _ { sc with heap := pushCells (sc.heap.push { cls := .type "dict", data := .dict #[] }) scope.names }
  rw [← ece, ← esd]
  refine codeAny_compStart_list ?lp (T.self X.A 0 _ _ _ t4 ?lp)
  case lp =>
    refine compLoop_any (fun n s' => ∃ i H', Inv (blkH X sc H3 scope ce fp p) [] (wipe σ (own.map (·.2))) H' s' ∧ tn i s'.heap ∧ (∀ b ∈ fp, H' b = none) ∧ W i n H') ?_ m0 ⟨0, H3, Y0, t4, nfp, w0⟩
    rintro n se ⟨i, He, Ie, tne, ne, we⟩
    rcases turn i n He we with ⟨stop, qq⟩ | ⟨go, Nx, hNx, step⟩
    · refine thnT (T.done (blkH X sc H3 scope ce fp p) rfl rfl rfl hY i [] se _ He (fun _ _ => False) Ie (stat Ie ne) tne stop) fun r sf ⟨hr, If⟩ => ?_
      subst hr
      have Ix : Inv X pins σ He sf := I3.call' (ch := fp) If.os If.base If.hok If.bare fun b hb => ⟨(f3 b hb).1.2.2.2.1, (f3 b hb).1.2.1, (f3 b hb).1.2.2.2.2.1, (f3 b hb).1.2.2.2.2.2⟩
      obtain ⟨m, hns, _⟩ := If.loc
      have hns : sf.heap.Ns ce.locals m := hns
      have nC : He ce.locals = none := If.free
      rw [cL] at hns nC
      obtain ⟨f0, f1, f2', f3', f4, f5⟩ := I3.fpOk (Nat.le_refl _) nC
      exact ⟨m, hns, fun h'' sb' => ⟨.ref L, He, Ix.turned (t' := sf.toks) (fun b o hb e => (sb'.2 b hb).trans e) f0 f1 f3' f4 f5, rfl, qq⟩⟩
    · refine thnT (T.item (blkH X sc H3 scope ce fp p) rfl rfl rfl hY i [] se _ He (fun _ _ => False) Ie (stat Ie ne) tne go) fun r sf ⟨u, hr, hf⟩ => ?_
      subst hr
      refine thnT hf fun _ sg ⟨x, Hg, Ig, rx, yx, tng, ng⟩ => ?_
      refine thnT (gg.run _ sg _ Hg x u _ (Ig.pinned (stat Ig ng) (T.obj _ _ tng)) rx (step x Hg yx)) fun _ sh ⟨σh, Hh, Ih, wh, qh⟩ => ?_
      refine thnT (gt.run _ sh σh Hh _ Ih qh) fun b si ⟨Hi, Ii, qi⟩ => ?_
      have fin : ∀ {s' : Shared} {H' : Hp}, Inv (blkH X sc H3 scope ce fp p) ([] ++ pinsAt fp sg.heap) σh H' s' → Nx H' → ∃ m, m < n ∧ ∃ i H', Inv (blkH X sc H3 scope ce fp p) [] (wipe σ (own.map (·.2))) H' s' ∧ tn i s'.heap ∧ (∀ b ∈ fp, H' b = none) ∧ W i m H' := fun {s' H'} I' nx => by
        obtain ⟨m', hm, w'⟩ := hNx H' nx
        have at' : ∀ b ∈ fp, ∀ o, sg.heap.get? b = some o → s'.heap.get? b = some o ∧ H' b = none := fun b hb o e => by
          obtain ⟨a1, a2, _⟩ := I'.pin (b, o) (List.mem_append_right _ (List.mem_append_right _ (mem_pinsAt hb e)))
          exact ⟨a1, a2⟩
        refine ⟨m', hm, i + 1, H', (I'.unpinned (pins := [])).weak (by rw [← wh, wipe_length]) (fun j v e => ?_), T.keep _ _ _ tng fun b hb o e => (at' b hb o e).1, fun b hb => ?_, w'⟩
        · rw [← wh] at e; exact (wipe_some e).1
        · obtain ⟨o, e, _⟩ := T.obj _ _ tng b hb; exact (at' b hb o e).2
      cases b with
      | false =>
        rw [if_neg Bool.false_ne_true] at qi ⊢
        exact fin Ii qi
      | true =>
        rw [if_pos rfl] at qi ⊢
        exact thnT (ge.run _ si σh Hi _ Ii qi) fun z sj ⟨yv, Hj, Ij, rj, acc, hL, hz, nx⟩ => app_ok (X := blkH X sc H3 scope ce fp p) Ij hL hz rj fun sk Ik => fin Ik nx
end
end EX
/-! DLa: data semantics over the hand layer: what stands in slots as plain data, and when a reading follows from it. -/
namespace DL
open PySem PySem.Spec L2

abbrev D := PyData
abbrev Dr := Int × Int
/-- what a slot holds: nothing known; plain data; a list of its own; a dict of its own (int keys); the same while it is walked; the draws' cell -/
inductive Sl where
  | un
  | im (d : D)
  | ol (xs : List D)
  | od (kvs : List (Int × D))
  | fd (kvs : List (Int × D))
  | op (v : V)
  | dr
abbrev Rho := List Sl
abbrev SE := Rho → Dr → Option (D × Dr)
abbrev SB := Rho → Dr → Option (Bool × Dr)
abbrev SA := Rho → Dr → Option (List D × Dr)
inductive Fl where
  | nx | bk | ct
  | rt (d : D)
abbrev SS := Rho → Dr → Option (Fl × Rho × Dr)

/-! ### heaps -/
/-! a value that stands for plain data: its lists and tuples are tracked ones -/
mutual
inductive Dp (K : PySem.W.Frag) (H : Hp) : V → PyData → Prop
  | non : Dp K H .non .none
  | bl (b : Bool) : Dp K H (.bl b) (.bool b)
  | int (i : Int) : Dp K H (.int i) (.int i)
  | str (x : Str) : Dp K H (.str x) (.str x)
  | lst {a : Addr} {xs : List V} {ds : List PyData} : H a = some (.lst xs) → DpAll K H xs ds → Dp K H (.ref a) (.list ds)
  | tup {a : Addr} {xs : List V} {ds : List PyData} : H a = some (.tup xs) → DpAll K H xs ds → Dp K H (.ref a) (.tuple ds)
inductive DpAll (K : PySem.W.Frag) (H : Hp) : List V → List PyData → Prop
  | nil : DpAll K H [] []
  | cons {v : V} {vs : List V} {d : PyData} {ds : List PyData} : Dp K H v d → DpAll K H vs ds → DpAll K H (v :: vs) (d :: ds)
end
mutual
theorem dp_old {K : PySem.W.Frag} {B : Hp} : ∀ (d : PyData) (v : V), Dp K B v d → L2.Dp K B v d
  | .none, _, h => by cases h; exact .non
  | .bool b, _, h => by cases h; exact .bl b
  | .int i, _, h => by cases h; exact .int i
  | .str x, _, h => by cases h; exact .str x
  | .list ds, _, h => by
    cases h with
    | lst hs ha => exact .lst (SqL.of hs) (dpAll_old ds _ ha)
  | .tuple ds, _, h => by
    cases h with
    | tup hs ha => exact .tup (SqT.of hs) (dpAll_old ds _ ha)
  | .dict _, _, h => by cases h
theorem dpAll_old {K : PySem.W.Frag} {B : Hp} : ∀ (ds : List PyData) (vs : List V), DpAll K B vs ds → L2.DpAll K B vs ds
  | [], _, h => by cases h; exact .nil
  | d :: ds, _, h => by
    cases h with
    | cons h1 h2 => exact .cons (dp_old d _ h1) (dpAll_old ds _ h2)
end
mutual
theorem dp_mono {K : PySem.W.Frag} {B B' : Hp} (e : Same B B') : ∀ (d : PyData) (v : V), Dp K B v d → Dp K B' v d
  | .none, _, h => by cases h; exact .non
  | .bool b, _, h => by cases h; exact .bl b
  | .int i, _, h => by cases h; exact .int i
  | .str x, _, h => by cases h; exact .str x
  | .list ds, _, h => by
    cases h with
    | lst hs ha => exact .lst (e _ _ hs) (dpAll_mono e ds _ ha)
  | .tuple ds, _, h => by
    cases h with
    | tup hs ha => exact .tup (e _ _ hs) (dpAll_mono e ds _ ha)
  | .dict _, _, h => by cases h
theorem dpAll_mono {K : PySem.W.Frag} {B B' : Hp} (e : Same B B') : ∀ (ds : List PyData) (vs : List V), DpAll K B vs ds → DpAll K B' vs ds
  | [], _, h => by cases h; exact .nil
  | d :: ds, _, h => by
    cases h with
    | cons h1 h2 => exact .cons (dp_mono e d _ h1) (dpAll_mono e ds _ h2)
end
theorem dpAll_len {K : PySem.W.Frag} {B : Hp} : ∀ {ds : List PyData} {vs : List V}, DpAll K B vs ds → vs.length = ds.length
  | [], _, h => by cases h; rfl
  | d :: ds, _, h => by
    cases h with
    | cons h1 h2 => rw [List.length_cons, List.length_cons, dpAll_len h2]
theorem dpAll_get {K : PySem.W.Frag} {B : Hp} : ∀ {ds : List PyData} {vs : List V} {i : Nat} {d : D}, DpAll K B vs ds → ds[i]? = some d → ∃ v, vs[i]? = some v ∧ Dp K B v d
  | [], _, _, _, _, e => by simp at e
  | x :: ds, _, 0, d, h, e => by
    cases h with
    | cons h1 h2 =>
      simp at e
      subst e
      exact ⟨_, rfl, h1⟩
  | x :: ds, _, i + 1, d, h, e => by
    cases h with
    | cons h1 h2 =>
      obtain ⟨v, e1, e2⟩ := dpAll_get (i := i) h2 (by simpa using e)
      exact ⟨v, by simpa using e1, e2⟩
theorem dpAll_append {K : PySem.W.Frag} {B : Hp} : ∀ {ds es : List PyData} {vs us : List V}, DpAll K B vs ds → DpAll K B us es → DpAll K B (vs ++ us) (ds ++ es)
  | [], _, _, _, h, h' => by cases h; exact h'
  | d :: ds, _, _, _, h, h' => by
    cases h with
    | cons h1 h2 => exact .cons h1 (dpAll_append h2 h')
theorem dpAll_set {K : PySem.W.Frag} {B : Hp} {v : V} {d : D} (hd : Dp K B v d) : ∀ {ds : List PyData} {vs : List V} (i : Nat), DpAll K B vs ds → DpAll K B (vs.set i v) (ds.set i d)
  | [], _, _, h => by cases h; exact .nil
  | x :: ds, _, 0, h => by
    cases h with
    | cons h1 h2 => exact .cons hd h2
  | x :: ds, _, i + 1, h => by
    cases h with
    | cons h1 h2 => exact .cons h1 (dpAll_set hd i h2)
theorem dpAll_take {K : PySem.W.Frag} {B : Hp} : ∀ {ds : List PyData} {vs : List V} (n : Nat), DpAll K B vs ds → DpAll K B (vs.take n) (ds.take n)
  | _, _, 0, _ => .nil
  | [], _, n + 1, h => by cases h; exact .nil
  | d :: ds, _, n + 1, h => by
    cases h with
    | cons h1 h2 => exact .cons h1 (dpAll_take n h2)
theorem dpAll_drop {K : PySem.W.Frag} {B : Hp} : ∀ {ds : List PyData} {vs : List V} (n : Nat), DpAll K B vs ds → DpAll K B (vs.drop n) (ds.drop n)
  | _, _, 0, h => h
  | [], _, n + 1, h => by cases h; exact .nil
  | d :: ds, _, n + 1, h => by
    cases h with
    | cons h1 h2 => exact dpAll_drop n h2
theorem dpAll_snoc {K : PySem.W.Frag} {B : Hp} {ds : List PyData} {vs : List V} {v : V} {d : D} (h : DpAll K B vs ds) (hd : Dp K B v d) : DpAll K B (vs ++ [v]) (ds ++ [d]) := dpAll_append h (.cons hd .nil)
theorem dpAll_rev {K : PySem.W.Frag} {B : Hp} : ∀ {ds : List PyData} {vs : List V}, DpAll K B vs ds → DpAll K B vs.reverse ds.reverse
  | [], _, h => by cases h; exact .nil
  | d :: ds, _, h => by
    cases h with
    | cons h1 h2 => rw [List.reverse_cons, List.reverse_cons]; exact dpAll_snoc (dpAll_rev h2) h1
theorem dpAll_rep {K : PySem.W.Frag} {B : Hp} {ds : List PyData} {vs : List V} (h : DpAll K B vs ds) : ∀ k : Nat, DpAll K B (List.replicate k vs).flatten (List.replicate k ds).flatten
  | 0 => .nil
  | k + 1 => by rw [List.replicate_succ, List.replicate_succ, List.flatten_cons, List.flatten_cons]; exact dpAll_append h (dpAll_rep h k)

/-- scalars need no heap -/
def flatD : D → Bool
  | .none | .bool _ | .int _ | .str _ => true
  | _ => false
theorem dp_int {K : PySem.W.Frag} {B : Hp} {v : V} {i : Int} (h : Dp K B v (.int i)) : v = .int i := by cases h; rfl
theorem dp_bool {K : PySem.W.Frag} {B : Hp} {v : V} {b : Bool} (h : Dp K B v (.bool b)) : v = .bl b := by cases h; rfl
theorem dp_str {K : PySem.W.Frag} {B : Hp} {v : V} {x : Str} (h : Dp K B v (.str x)) : v = .str x := by cases h; rfl
theorem dp_list {K : PySem.W.Frag} {B : Hp} {v : V} {ds : List D} (h : Dp K B v (.list ds)) : ∃ a xs, v = .ref a ∧ B a = some (.lst xs) ∧ DpAll K B xs ds := by
  cases h with
  | lst h1 h2 => exact ⟨_, _, rfl, h1, h2⟩
theorem dp_tuple {K : PySem.W.Frag} {B : Hp} {v : V} {ds : List D} (h : Dp K B v (.tuple ds)) : ∃ a xs, v = .ref a ∧ B a = some (.tup xs) ∧ DpAll K B xs ds := by
  cases h with
  | tup h1 h2 => exact ⟨_, _, rfl, h1, h2⟩

/-- an expression's way: the persistent part grows, all that is tracked stands but the cell -/
structure Fw (ad : Option Addr) (c' : Dr) (B H B' H' : Hp) : Prop where
  bb : Same B B'
  bh : Same B' H'
  keep : ∀ a o, ad ≠ some a → H a = some o → H' a = some o
  cell : ∀ a, ad = some a → H' a = some (.lst [.int c'.1, .int c'.2])
  fresh : ∀ a o, B' a = some o → B a = none → H a = none
theorem Fw.trans {ad : Option Addr} {c1 c2 : Dr} {B H B1 H1 B2 H2 : Hp} (x : Fw ad c1 B H B1 H1) (y : Fw ad c2 B1 H1 B2 H2) (hc : ∀ a, ad = some a → B1 a = none ∧ B2 a = none) : Fw ad c2 B H B2 H2 where
  bb := x.bb.trans y.bb
  bh := y.bh
  keep := fun a o n h => y.keep a o n (x.keep a o n h)
  cell := y.cell
  fresh := fun a o h n => by
    cases q : B1 a with
    | some u => exact x.fresh a u q n
    | none =>
      have h1 := y.fresh a o h q
      cases r : H a with
      | none => rfl
      | some w =>
        have na : ad ≠ some a := fun e => by
          have := (hc a e).2
          rw [h] at this; cases this
        rw [x.keep a w na r] at h1; cases h1
/-- nothing that is tracked changes -/
structure Grow (B H B' H' : Hp) : Prop where
  bb : Same B B'
  bh : Same B' H'
  hh : Same H H'
  fresh : ∀ a o, B' a = some o → B a = none → H a = none
theorem Grow.refl {B H : Hp} (s : Same B H) : Grow B H B H := ⟨Same.refl B, s, Same.refl H, fun _ _ h n => by rw [h] at n; cases n⟩
theorem Grow.trans {B H B1 H1 B2 H2 : Hp} (x : Grow B H B1 H1) (y : Grow B1 H1 B2 H2) : Grow B H B2 H2 :=
  ⟨x.bb.trans y.bb, y.bh, x.hh.trans y.hh, fun a o h n => by
    cases q : B1 a with
    | some u => exact x.fresh a u q n
    | none => exact x.hh.free (y.fresh a o h q)⟩
theorem Grow.fw {ad : Option Addr} {c : Dr} {B H B' H' : Hp} (g : Grow B H B' H') (hc : ∀ a, ad = some a → H a = some (.lst [.int c.1, .int c.2])) : Fw ad c B H B' H' :=
  ⟨g.bb, g.bh, fun a o _ h => g.hh a o h, fun a e => g.hh a _ (hc a e), g.fresh⟩
/-- a new object, persistent from now on -/
theorem Grow.new {B H : Hp} {p : Addr} {o : HO} (s : Same B H) (hp : H p = none) : Grow B H (upd B p o) (upd H p o) where
  bb := fun b u h => by rw [upd_ne (ne_of_none h (s.free hp))]; exact h
  bh := fun b u h => by
    by_cases e : b = p
    · subst e; rw [upd_same] at h ⊢; exact h
    · rw [upd_ne e] at h ⊢; exact s b u h
  hh := fun b u h => by rw [upd_ne (ne_of_none h hp)]; exact h
  fresh := fun b u h n => by
    by_cases e : b = p
    · subst e; exact hp
    · rw [upd_ne e, n] at h; cases h
theorem same_new {H : Hp} {p : Addr} {o : HO} (hp : H p = none) : Same H (upd H p o) := fun b u h => by rw [upd_ne (ne_of_none h hp)]; exact h

/-! ### slots -/
def KvOk (K : PySem.W.Frag) (B : Hp) : List (Key × V) → List (Int × D) → Prop := Paired fun p q => p.1 = Sum.inl q.1 ∧ Dp K B p.2 q.2
theorem paired_map {α β : Type} {F G : α → β → Prop} : ∀ {l₁ : List α} {l₂ : List β}, Paired F l₁ l₂ → (∀ a b, F a b → G a b) → Paired G l₁ l₂
  | _, _, .nil, _ => .nil
  | _, _, .cons r t, f => .cons (f _ _ r) (paired_map t f)
theorem kv_mono {K : PySem.W.Frag} {B B' : Hp} (e : Same B B') {ks : List (Key × V)} {kvs : List (Int × D)} (h : KvOk K B ks kvs) : KvOk K B' ks kvs :=
  paired_map h fun _ _ z => ⟨z.1, dp_mono e _ _ z.2⟩
def SlOk (K : PySem.W.Frag) (ad : Option Addr) (B H : Hp) (o : Option (Option V)) : Sl → Prop
  | .un => True
  | .im d => ∃ v, o = some (some v) ∧ Dp K B v d
  | .ol xs => ∃ a vs, o = some (some (.ref a)) ∧ H a = some (.lst vs) ∧ B a = none ∧ ad ≠ some a ∧ DpAll K B vs xs
  | .od kvs => ∃ a ks, o = some (some (.ref a)) ∧ H a = some (.dK ks) ∧ B a = none ∧ ad ≠ some a ∧ KvOk K B ks kvs
  | .fd kvs => ∃ a w ks, o = some (some (.ref a)) ∧ H a = some (.frz w (.dK ks)) ∧ B a = none ∧ ad ≠ some a ∧ KvOk K B ks kvs
  | .op v => o = some (some v)
  | .dr => ∃ a, ad = some a ∧ o = some (some (.ref a))
def owns : Sl → Bool
  | .ol _ => true
  | .od _ => true
  | _ => false
def Owned (ρ : Rho) (σ : L2.St) (a : Addr) : Prop := ∃ (i : Nat) (s : Sl), ρ[i]? = some s ∧ owns s = true ∧ σ[i]? = some (some (.ref a))
structure Rl (K : PySem.W.Frag) (ad : Option Addr) (B : Hp) (σ : L2.St) (H : Hp) (ρ : Rho) (c : Dr) : Prop where
  sub : Same B H
  cell : ∀ a, ad = some a → H a = some (.lst [.int c.1, .int c.2])
  cfree : ∀ a, ad = some a → B a = none
  len : σ.length = ρ.length
  slot : ∀ (i : Nat) (s : Sl), ρ[i]? = some s → SlOk K ad B H σ[i]? s
  sep : ∀ (i j : Nat) (s t : Sl) (a : Addr), i ≠ j → ρ[i]? = some s → ρ[j]? = some t → owns s = true → owns t = true → σ[i]? = some (some (.ref a)) → σ[j]? ≠ some (some (.ref a))
section
variable {K : PySem.W.Frag} {ad : Option Addr} {B B' H H' : Hp} {σ : L2.St} {ρ : Rho} {c c' : Dr}
theorem SlOk.fw {o : Option (Option V)} {s : Sl} (h : SlOk K ad B H o s) (x : Fw ad c' B H B' H') : SlOk K ad B' H' o s := by
  have nb : ∀ {a : Addr} {u : HO}, H a = some u → B a = none → B' a = none := fun {a u} h1 h2 => by
    cases q : B' a with
    | none => rfl
    | some w => rw [x.fresh a w q h2] at h1; cases h1
  cases s with
  | un => trivial
  | im d =>
    obtain ⟨v, e, r⟩ := h
    exact ⟨v, e, dp_mono x.bb _ _ r⟩
  | ol xs =>
    obtain ⟨a, vs, e, h1, h2, h3, h4⟩ := h
    exact ⟨a, vs, e, x.keep a _ h3 h1, nb h1 h2, h3, dpAll_mono x.bb _ _ h4⟩
  | od kvs =>
    obtain ⟨a, ks, e, h1, h2, h3, h4⟩ := h
    exact ⟨a, ks, e, x.keep a _ h3 h1, nb h1 h2, h3, kv_mono x.bb h4⟩
  | fd kvs =>
    obtain ⟨a, w, ks, e, h1, h2, h3, h4⟩ := h
    exact ⟨a, w, ks, e, x.keep a _ h3 h1, nb h1 h2, h3, kv_mono x.bb h4⟩
  | op v => exact h
  | dr => exact h
theorem Fw.cfree (x : Fw ad c' B H B' H') (r : Rl K ad B σ H ρ c) : ∀ a, ad = some a → B' a = none := fun a e => by
  cases q : B' a with
  | none => rfl
  | some w =>
    have h1 := x.fresh a w q (r.cfree a e)
    rw [r.cell a e] at h1; cases h1
theorem Rl.fw (r : Rl K ad B σ H ρ c) (x : Fw ad c' B H B' H') : Rl K ad B' σ H' ρ c' :=
  ⟨x.bh, x.cell, x.cfree r, r.len, fun i s e => (r.slot i s e).fw x, r.sep⟩
theorem Rl.fwRefl (r : Rl K ad B σ H ρ c) : Fw ad c B H B H := (Grow.refl r.sub).fw r.cell
theorem Rl.trans {c1 c2 : Dr} {B1 H1 B2 H2 : Hp} (r : Rl K ad B σ H ρ c) (x : Fw ad c1 B H B1 H1) (y : Fw ad c2 B1 H1 B2 H2) : Fw ad c2 B H B2 H2 :=
  x.trans y fun a e => ⟨x.cfree r a e, y.cfree (r.fw x) a e⟩
/-- a slot set to plain data -/
theorem Rl.setIm (r : Rl K ad B σ H ρ c) {i : Nat} {v : V} {d : D} (h : Dp K B v d) : Rl K ad B (σ.set i (some v)) H (ρ.set i (.im d)) c := by
  refine ⟨r.sub, r.cell, r.cfree, by rw [List.length_set, List.length_set]; exact r.len, fun j s e => ?_, fun j k s t a hjk e1 e2 o1 o2 g1 => ?_⟩
  · by_cases hj : j = i
    · subst hj
      have hl : j < ρ.length := by
        have := (List.getElem?_eq_some_iff.mp e).1
        rwa [List.length_set] at this
      rw [List.getElem?_set_self hl] at e
      cases e
      rw [List.getElem?_set_self (by rw [r.len]; exact hl)]
      exact ⟨v, rfl, h⟩
    · rw [List.getElem?_set_ne (Ne.symm hj)] at e ⊢
      exact r.slot j s e
  · by_cases hj : j = i
    · subst hj
      have hl : j < ρ.length := by
        have := (List.getElem?_eq_some_iff.mp e1).1
        rwa [List.length_set] at this
      rw [List.getElem?_set_self hl] at e1
      cases e1; cases o1
    · by_cases hk : k = i
      · subst hk
        have hl : k < ρ.length := by
          have := (List.getElem?_eq_some_iff.mp e2).1
          rwa [List.length_set] at this
        rw [List.getElem?_set_self hl] at e2
        cases e2; cases o2
      · rw [List.getElem?_set_ne (Ne.symm hj)] at e1 g1
        rw [List.getElem?_set_ne (Ne.symm hk)] at e2 ⊢
        exact r.sep j k s t a hjk e1 e2 o1 o2 g1
end
end DL
/-! DLb: expressions. -/
namespace DL
open PySem PySem.Spec L2

/-! ### what a reading does, on data -/
def ImpE (K : PySem.W.Frag) (t : TE) (f : SE) : Prop := ∀ (ad : Option Addr) (B : Hp) (σ : L2.St) (H : Hp) (ρ : Rho) (c : Dr) (d : D) (c' : Dr) (Q : VK), Rl K ad B σ H ρ c → f ρ c = some (d, c') →
  (∀ v B' H', Fw ad c' B H B' H' → Dp K B' v d → Q v H') → t σ H Q
def ImpT (K : PySem.W.Frag) (t : TT) (f : SB) : Prop := ∀ (ad : Option Addr) (B : Hp) (σ : L2.St) (H : Hp) (ρ : Rho) (c : Dr) (b : Bool) (c' : Dr) (Q : Bool → Hp → Prop), Rl K ad B σ H ρ c → f ρ c = some (b, c') →
  (∀ B' H', Fw ad c' B H B' H' → Q b H') → t σ H Q
def ImpA (K : PySem.W.Frag) (t : TA) (f : SA) : Prop := ∀ (ad : Option Addr) (B : Hp) (σ : L2.St) (H : Hp) (ρ : Rho) (c : Dr) (ds : List D) (c' : Dr) (Q : List V → Hp → Prop), Rl K ad B σ H ρ c → f ρ c = some (ds, c') →
  (∀ vs B' H', Fw ad c' B H B' H' → DpAll K B' vs ds → Q vs H') → t σ H Q
/-- operations on values -/
def OpD (K : PySem.W.Frag) (r : R2) (g : D → D → Option D) : Prop := ∀ (B H : Hp) (x y : V) (d e z : D) (Q : VK), Same B H → Dp K B x d → Dp K B y e → g d e = some z → (∀ v B' H', Grow B H B' H' → Dp K B' v z → Q v H') → r x y H Q
def UnD (K : PySem.W.Frag) (r : V → Hp → VK → Prop) (g : D → Option D) : Prop := ∀ (B H : Hp) (x : V) (d z : D) (Q : VK), Same B H → Dp K B x d → g d = some z → (∀ v B' H', Grow B H B' H' → Dp K B' v z → Q v H') → r x H Q
def CallD (K : PySem.W.Frag) (r : List V → Hp → VK → Prop) (g : List D → Option D) : Prop := ∀ (B H : Hp) (xs : List V) (ds : List D) (z : D) (Q : VK), Same B H → DpAll K B xs ds → g ds = some z → (∀ v B' H', Grow B H B' H' → Dp K B' v z → Q v H') → r xs H Q

/-! ### names and constants -/
def sV (i : Nat) : SE := fun ρ c => match ρ[i]? with
  | some (.im d) => some (d, c)
  | _ => none
def sC (d : D) : SE := fun _ c => some (d, c)
theorem imp_v {K : PySem.W.Frag} (i : Nat) : ImpE K (tVar i) (sV i) := fun ad B σ H ρ c d c' Q r h q => by
  unfold sV at h
  split at h
  · rename_i d' e
    cases h
    obtain ⟨v, e1, e2⟩ := r.slot i _ e
    exact ⟨v, e1, q v B H r.fwRefl e2⟩
  · cases h
theorem imp_int {K : PySem.W.Frag} {i : Int} : ImpE K (tC (.int i)) (sC (.int i)) := fun ad B σ H ρ c d c' Q r h q => by
  cases h; exact q _ B H r.fwRefl (.int i)
theorem imp_bl {K : PySem.W.Frag} {i : Bool} : ImpE K (tC (.bl i)) (sC (.bool i)) := fun ad B σ H ρ c d c' Q r h q => by
  cases h; exact q _ B H r.fwRefl (.bl i)
theorem imp_non {K : PySem.W.Frag} : ImpE K (tC .non) (sC .none) := fun ad B σ H ρ c d c' Q r h q => by
  cases h; exact q _ B H r.fwRefl .non
theorem imp_str {K : PySem.W.Frag} {i : Str} : ImpE K (tC (.str i)) (sC (.str i)) := fun ad B σ H ρ c d c' Q r h q => by
  cases h; exact q _ B H r.fwRefl (.str i)

/-! ### operators -/
def sOp (g : D → D → Option D) (a b : SE) : SE := fun ρ c => (a ρ c).bind fun p => (b ρ p.2).bind fun q => (g p.1 q.1).bind fun z => some (z, q.2)
def sUn (g : D → Option D) (a : SE) : SE := fun ρ c => (a ρ c).bind fun p => (g p.1).bind fun z => some (z, p.2)
/-- the test of a value that is a bool -/
def sB (a : SE) : SB := fun ρ c => (a ρ c).bind fun p => match p.1 with
  | .bool b => some (b, p.2)
  | _ => none
theorem imp_op {K : PySem.W.Frag} {r : R2} {g : D → D → Option D} {ta tb : TE} {a b : SE} (hr : OpD K r g) (ha : ImpE K ta a) (hb : ImpE K tb b) : ImpE K (tOp r ta tb) (sOp g a b) := fun ad B σ H ρ c d c' Q R h q => by
  unfold sOp at h
  obtain ⟨⟨x, c1⟩, h1, h⟩ := Option.bind_eq_some_iff.mp h
  obtain ⟨⟨y, c2⟩, h2, h⟩ := Option.bind_eq_some_iff.mp h
  obtain ⟨z, h3, h⟩ := Option.bind_eq_some_iff.mp h
  cases h
  refine ha ad B σ H ρ c x c1 _ R h1 fun v B1 H1 f1 d1 => ?_
  refine hb ad B1 σ H1 ρ c1 y c2 _ (R.fw f1) h2 fun u B2 H2 f2 d2 => ?_
  refine hr B2 H2 v u x y _ _ f2.bh (dp_mono f2.bb _ _ d1) d2 h3 fun w B3 H3 g3 d3 => ?_
  exact q w B3 H3 (R.trans (R.trans f1 f2) (g3.fw f2.cell)) d3
theorem imp_un {K : PySem.W.Frag} {r : V → Hp → VK → Prop} {g : D → Option D} {ta : TE} {a : SE} (hr : UnD K r g) (ha : ImpE K ta a) : ImpE K (tUn r ta) (sUn g a) := fun ad B σ H ρ c d c' Q R h q => by
  unfold sUn at h
  obtain ⟨⟨x, c1⟩, h1, h⟩ := Option.bind_eq_some_iff.mp h
  obtain ⟨z, h3, h⟩ := Option.bind_eq_some_iff.mp h
  cases h
  refine ha ad B σ H ρ c x c1 _ R h1 fun v B1 H1 f1 d1 => ?_
  exact hr B1 H1 v x _ _ f1.bh d1 h3 fun w B3 H3 g3 d3 => q w B3 H3 (R.trans f1 (g3.fw f1.cell)) d3
theorem imp_test {K : PySem.W.Frag} {t : TE} {f : SE} (h : ImpE K t f) : ImpT K (tTest t) (sB f) := fun ad B σ H ρ c b c' Q R e q => by
  unfold sB at e
  obtain ⟨⟨x, c1⟩, h1, e⟩ := Option.bind_eq_some_iff.mp e
  refine h ad B σ H ρ c x c1 _ R h1 fun v B1 H1 f1 d1 => ?_
  cases x with
  | bool k =>
    cases e
    exact ⟨b, dp_bool d1, q B1 H1 f1⟩
  | _ => cases e
theorem imp_tB {K : PySem.W.Frag} {t : TE} {f : SE} (h : ImpE K t f) : ImpT K (tB t) (sB f) := imp_test h
/-- by truth -/
def truD : D → Option Bool
  | .none => some false
  | .bool b => some b
  | .int i => some (i != 0)
  | .list xs => some (!xs.isEmpty)
  | .tuple xs => some (!xs.isEmpty)
  | _ => none
def sTr (a : SE) : SB := fun ρ c => (a ρ c).bind fun p => (truD p.1).bind fun b => some (b, p.2)
theorem truD_ok {K : PySem.W.Frag} {B H : Hp} {x : V} {d : D} {b : Bool} (s : Same B H) (h : Dp K B x d) (e : truD d = some b) : TruV K x H b := by
  cases h with
  | non => cases e; exact rfl
  | bl k => cases e; exact rfl
  | int i => cases e; exact rfl
  | str x => cases e
  | lst h1 h2 =>
    cases e
    refine .inl ⟨_, SqL.of (s _ _ h1), ?_⟩
    rename_i xs ds
    have := dpAll_len h2
    cases xs <;> cases ds <;> simp_all
  | tup h1 h2 =>
    cases e
    refine .inr (.inl ⟨_, SqT.of (s _ _ h1), ?_⟩)
    rename_i xs ds
    have := dpAll_len h2
    cases xs <;> cases ds <;> simp_all
/-! and, or, not -/
def sAnd (a b : SB) : SB := fun ρ c => (a ρ c).bind fun p => if p.1 = true then b ρ p.2 else some (false, p.2)
def sOr (a b : SB) : SB := fun ρ c => (a ρ c).bind fun p => if p.1 = true then some (true, p.2) else b ρ p.2
def sNot (a : SB) : SB := fun ρ c => (a ρ c).bind fun p => some (!p.1, p.2)
def sAndV (a b : SE) : SE := fun ρ c => (sB a ρ c).bind fun p => if p.1 = true then b ρ p.2 else some (.bool false, p.2)
def sOrV (a b : SE) : SE := fun ρ c => (sB a ρ c).bind fun p => if p.1 = true then some (.bool true, p.2) else b ρ p.2
def sNotV (a : SE) : SE := fun ρ c => (sB a ρ c).bind fun p => some (.bool (!p.1), p.2)
theorem imp_and {K : PySem.W.Frag} {t u : TT} {a b : SB} (ha : ImpT K t a) (hb : ImpT K u b) : ImpT K (tAnd t u) (sAnd a b) := fun ad B σ H ρ c z c' Q R e q => by
  unfold sAnd at e
  obtain ⟨⟨x, c1⟩, h1, e⟩ := Option.bind_eq_some_iff.mp e
  refine ha ad B σ H ρ c x c1 _ R h1 fun B1 H1 f1 => ?_
  cases x with
  | true => exact hb ad B1 σ H1 ρ c1 z c' Q (R.fw f1) e fun B2 H2 f2 => q B2 H2 (R.trans f1 f2)
  | false => cases e; exact q B1 H1 f1
theorem imp_or {K : PySem.W.Frag} {t u : TT} {a b : SB} (ha : ImpT K t a) (hb : ImpT K u b) : ImpT K (tOr t u) (sOr a b) := fun ad B σ H ρ c z c' Q R e q => by
  unfold sOr at e
  obtain ⟨⟨x, c1⟩, h1, e⟩ := Option.bind_eq_some_iff.mp e
  refine ha ad B σ H ρ c x c1 _ R h1 fun B1 H1 f1 => ?_
  cases x with
  | false => exact hb ad B1 σ H1 ρ c1 z c' Q (R.fw f1) e fun B2 H2 f2 => q B2 H2 (R.trans f1 f2)
  | true => cases e; exact q B1 H1 f1
theorem imp_not {K : PySem.W.Frag} {t : TT} {a : SB} (ha : ImpT K t a) : ImpT K (tNot t) (sNot a) := fun ad B σ H ρ c z c' Q R e q => by
  unfold sNot at e
  obtain ⟨⟨x, c1⟩, h1, e⟩ := Option.bind_eq_some_iff.mp e
  cases e
  exact ha ad B σ H ρ c x c1 _ R h1 fun B1 H1 f1 => q B1 H1 f1
theorem imp_sB {K : PySem.W.Frag} {t : TE} {a : SE} (ha : ImpE K t a) {ad : Option Addr} {B : Hp} {σ : L2.St} {H : Hp} {ρ : Rho} {c : Dr} {k : Bool} {c1 : Dr} {Q : VK} (R : Rl K ad B σ H ρ c) (h : sB a ρ c = some (k, c1))
    (q : ∀ B' H', Fw ad c1 B H B' H' → Q (.bl k) H') : t σ H Q := by
  unfold sB at h
  obtain ⟨⟨x, c2⟩, h1, h⟩ := Option.bind_eq_some_iff.mp h
  refine ha ad B σ H ρ c x c2 _ R h1 fun v B1 H1 f1 d1 => ?_
  cases x with
  | bool k =>
    cases h
    rw [dp_bool d1]
    exact q B1 H1 f1
  | _ => cases h
theorem imp_andV {K : PySem.W.Frag} {t u : TE} {a b : SE} (ha : ImpE K t a) (hb : ImpE K u b) : ImpE K (tAndV t u) (sAndV a b) := fun ad B σ H ρ c z c' Q R e q => by
  unfold sAndV at e
  obtain ⟨⟨x, c1⟩, h1, e⟩ := Option.bind_eq_some_iff.mp e
  refine imp_sB ha R h1 fun B1 H1 f1 => ⟨x, rfl, ?_⟩
  cases x with
  | true => exact hb ad B1 σ H1 ρ c1 z c' Q (R.fw f1) e fun v B2 H2 f2 => q v B2 H2 (R.trans f1 f2)
  | false => cases e; exact q _ B1 H1 f1 (.bl false)
theorem imp_notV {K : PySem.W.Frag} {t : TE} {a : SE} (ha : ImpE K t a) : ImpE K (tNotV t) (sNotV a) := fun ad B σ H ρ c z c' Q R e q => by
  unfold sNotV at e
  obtain ⟨⟨x, c1⟩, h1, e⟩ := Option.bind_eq_some_iff.mp e
  cases e
  exact imp_sB ha R h1 fun B1 H1 f1 => ⟨x, rfl, q _ B1 H1 f1 (.bl _)⟩
def sIfE (t : SB) (a b : SE) : SE := fun ρ c => (t ρ c).bind fun p => if p.1 = true then a ρ p.2 else b ρ p.2
theorem imp_ifE {K : PySem.W.Frag} {t : TT} {u v : TE} {f : SB} {a b : SE} (ht : ImpT K t f) (ha : ImpE K u a) (hb : ImpE K v b) : ImpE K (tIf t u v) (sIfE f a b) := fun ad B σ H ρ c z c' Q R e q => by
  unfold sIfE at e
  obtain ⟨⟨x, c1⟩, h1, e⟩ := Option.bind_eq_some_iff.mp e
  refine ht ad B σ H ρ c x c1 _ R h1 fun B1 H1 f1 => ?_
  cases x with
  | true => exact ha ad B1 σ H1 ρ c1 z c' Q (R.fw f1) e fun v B2 H2 f2 => q v B2 H2 (R.trans f1 f2)
  | false => exact hb ad B1 σ H1 ρ c1 z c' Q (R.fw f1) e fun v B2 H2 f2 => q v B2 H2 (R.trans f1 f2)
/-! chains: a < b <= c -/
def sChain (g g' : D → D → Option D) (a b e : SE) : SE := fun ρ c => (a ρ c).bind fun p => (b ρ p.2).bind fun q => (g p.1 q.1).bind fun z => match z with
  | .bool true => (e ρ q.2).bind fun w => (g' q.1 w.1).bind fun z' => some (z', w.2)
  | .bool false => some (.bool false, q.2)
  | _ => none
theorem imp_chain {K : PySem.W.Frag} {r r' : R2} {g g' : D → D → Option D} {ta tb tc : TE} {a b e : SE} (hr : OpD K r g) (hr' : OpD K r' g') (ha : ImpE K ta a) (hb : ImpE K tb b) (he : ImpE K tc e) :
    ImpE K (tChain r r' ta tb tc) (sChain g g' a b e) := fun ad B σ H ρ c d c' Q R h q => by
  unfold sChain at h
  obtain ⟨⟨x, c1⟩, h1, h⟩ := Option.bind_eq_some_iff.mp h
  obtain ⟨⟨y, c2⟩, h2, h⟩ := Option.bind_eq_some_iff.mp h
  obtain ⟨z, h3, h⟩ := Option.bind_eq_some_iff.mp h
  refine ha ad B σ H ρ c x c1 _ R h1 fun v B1 H1 f1 d1 => ?_
  refine hb ad B1 σ H1 ρ c1 y c2 _ (R.fw f1) h2 fun u B2 H2 f2 d2 => ?_
  refine hr B2 H2 v u x y z _ f2.bh (dp_mono f2.bb _ _ d1) d2 h3 fun w B3 H3 g3 d3 => ?_
  have f3 : Fw ad c2 B H B3 H3 := R.trans (R.trans f1 f2) (g3.fw f2.cell)
  split at h
  · refine ⟨true, dp_bool d3, ?_⟩
    rw [if_pos rfl]
    obtain ⟨⟨x4, c4⟩, h4, h⟩ := Option.bind_eq_some_iff.mp h
    obtain ⟨z5, h5, h⟩ := Option.bind_eq_some_iff.mp h
    cases h
    refine he ad B3 σ H3 ρ c2 x4 c4 _ (R.fw f3) h4 fun v4 B4 H4 f4 d4 => ?_
    refine hr' B4 H4 u v4 y x4 _ _ f4.bh (dp_mono (g3.bb.trans f4.bb) _ _ d2) d4 h5 fun v5 B5 H5 g5 d5 => ?_
    exact q v5 B5 H5 (R.trans (R.trans f3 f4) (g5.fw f4.cell)) d5
  · cases h
    refine ⟨false, dp_bool d3, ?_⟩
    rw [if_neg Bool.false_ne_true]
    exact q _ B3 H3 f3 (.bl false)
  · cases h
/-! ### arguments, displays -/
def sNil : SA := fun _ c => some ([], c)
def sCons (a : SE) (b : SA) : SA := fun ρ c => (a ρ c).bind fun p => (b ρ p.2).bind fun q => some (p.1 :: q.1, q.2)
theorem imp_nil {K : PySem.W.Frag} : ImpA K tNil sNil := fun ad B σ H ρ c d c' Q r h q => by
  cases h; exact q _ B H r.fwRefl .nil
theorem imp_cons {K : PySem.W.Frag} {t : TE} {u : TA} {a : SE} {b : SA} (ha : ImpE K t a) (hb : ImpA K u b) : ImpA K (tCons t u) (sCons a b) := fun ad B σ H ρ c ds c' Q R h q => by
  unfold sCons at h
  obtain ⟨⟨x, c1⟩, h1, h⟩ := Option.bind_eq_some_iff.mp h
  obtain ⟨⟨y, c2⟩, h2, h⟩ := Option.bind_eq_some_iff.mp h
  cases h
  refine ha ad B σ H ρ c x c1 _ R h1 fun v B1 H1 f1 d1 => ?_
  refine hb ad B1 σ H1 ρ c1 y c2 _ (R.fw f1) h2 fun us B2 H2 f2 d2 => ?_
  exact q _ B2 H2 (R.trans f1 f2) (.cons (dp_mono f2.bb _ _ d1) d2)
theorem dp_newTup {K : PySem.W.Frag} {B : Hp} {p : Addr} {vs : List V} {ds : List D} (hp : B p = none) (h : DpAll K B vs ds) : Dp K (upd B p (.tup vs)) (.ref p) (.tuple ds) :=
  .tup upd_same (dpAll_mono (same_new hp) _ _ h)
theorem dp_newLst {K : PySem.W.Frag} {B : Hp} {p : Addr} {vs : List V} {ds : List D} (hp : B p = none) (h : DpAll K B vs ds) : Dp K (upd B p (.lst vs)) (.ref p) (.list ds) :=
  .lst upd_same (dpAll_mono (same_new hp) _ _ h)
/-- lengths that fit: a bound well below the model's line -/
def few (n : Nat) : Bool := decide (n ≤ 1000000)
theorem few_ok {n : Nat} (h : few n = true) : n ≤ 1000000 := of_decide_eq_true h
theorem few_line {n : Nat} (h : few n = true) : n ≤ sizeLine := Nat.le_trans (few_ok h) (by rw [sizeLine_eq]; decide)
theorem few_lt {n : Nat} (h : few n = true) : n < sizeLine := Nat.lt_of_le_of_lt (few_ok h) (by rw [sizeLine_eq]; decide)
def sTup (a : SA) : SE := fun ρ c => (a ρ c).bind fun p => if few p.1.length = true then some (.tuple p.1, p.2) else none
def sLst (a : SA) : SE := fun ρ c => (a ρ c).bind fun p => if few p.1.length = true then some (.list p.1, p.2) else none
theorem imp_tup {K : PySem.W.Frag} {t : TA} {a : SA} (ha : ImpA K t a) : ImpE K (tTup t) (sTup a) := fun ad B σ H ρ c d c' Q R h q => by
  unfold sTup at h
  obtain ⟨⟨x, c1⟩, h1, h⟩ := Option.bind_eq_some_iff.mp h
  split at h
  · rename_i hz
    cases h
    refine ha ad B σ H ρ c x _ _ R h1 fun vs B1 H1 f1 d1 => ⟨by rw [dpAll_len d1]; exact few_line hz, fun p np => ?_⟩
    exact q _ (upd B1 p (.tup vs)) _ (R.trans f1 ((Grow.new f1.bh np).fw f1.cell)) (dp_newTup (f1.bh.free np) d1)
  · cases h
theorem imp_lst {K : PySem.W.Frag} {t : TA} {a : SA} (ha : ImpA K t a) : ImpE K (tLst t) (sLst a) := fun ad B σ H ρ c d c' Q R h q => by
  unfold sLst at h
  obtain ⟨⟨x, c1⟩, h1, h⟩ := Option.bind_eq_some_iff.mp h
  split at h
  · rename_i hz
    cases h
    refine ha ad B σ H ρ c x _ _ R h1 fun vs B1 H1 f1 d1 => ⟨by rw [dpAll_len d1]; exact few_line hz, fun p np => ?_⟩
    exact q _ (upd B1 p (.lst vs)) _ (R.trans f1 ((Grow.new f1.bh np).fw f1.cell)) (dp_newLst (f1.bh.free np) d1)
  · cases h
/-! ### calls of built-ins -/
def sCB (g : List D → Option D) (a : SA) : SE := fun ρ c => (a ρ c).bind fun p => (g p.1).bind fun z => some (z, p.2)
theorem imp_cb {K : PySem.W.Frag} {r : List V → Hp → VK → Prop} {g : List D → Option D} {t : TA} {a : SA} (hr : CallD K r g) (ha : ImpA K t a) : ImpE K (tCB r t) (sCB g a) := fun ad B σ H ρ c d c' Q R h q => by
  unfold sCB at h
  obtain ⟨⟨x, c1⟩, h1, h⟩ := Option.bind_eq_some_iff.mp h
  obtain ⟨z, h2, h⟩ := Option.bind_eq_some_iff.mp h
  cases h
  refine ha ad B σ H ρ c x _ _ R h1 fun vs B1 H1 f1 d1 => ?_
  exact hr B1 H1 vs x _ _ f1.bh d1 h2 fun w B3 H3 g3 d3 => q w B3 H3 (R.trans f1 (g3.fw f1.cell)) d3
/-! ### slices -/
abbrev SO := Rho → Dr → Option (Option Int × Dr)
def ImpO (K : PySem.W.Frag) (t : TO) (f : SO) : Prop := ∀ (ad : Option Addr) (B : Hp) (σ : L2.St) (H : Hp) (ρ : Rho) (c : Dr) (o : Option Int) (c' : Dr) (Q : Option Int → Hp → Prop), Rl K ad B σ H ρ c → f ρ c = some (o, c') →
  (∀ B' H', Fw ad c' B H B' H' → Q o H') → t σ H Q
def sNoP : SO := fun _ c => some (none, c)
def sP (a : SE) : SO := fun ρ c => (a ρ c).bind fun p => match p.1 with
  | .int i => some (some i, p.2)
  | _ => none
theorem imp_noP {K : PySem.W.Frag} : ImpO K tNoPart sNoP := fun ad B σ H ρ c d c' Q r h q => by
  cases h; exact q B H r.fwRefl
theorem imp_p {K : PySem.W.Frag} {t : TE} {a : SE} (ha : ImpE K t a) : ImpO K (tPart t) (sP a) := fun ad B σ H ρ c d c' Q R h q => by
  unfold sP at h
  obtain ⟨⟨x, c1⟩, h1, h⟩ := Option.bind_eq_some_iff.mp h
  refine ha ad B σ H ρ c x c1 _ R h1 fun v B1 H1 f1 d1 => ?_
  cases x with
  | int i =>
    cases h
    exact ⟨i, dp_int d1, q B1 H1 f1⟩
  | _ => cases h
def SlD (K : PySem.W.Frag) (r : V → Option Int → Option Int → Hp → VK → Prop) (g : D → Option Int → Option Int → Option D) : Prop := ∀ (B H : Hp) (x : V) (d z : D) (lo hi : Option Int) (Q : VK), Same B H → Dp K B x d → g d lo hi = some z →
  (∀ v B' H', Grow B H B' H' → Dp K B' v z → Q v H') → r x lo hi H Q
def sSl (g : D → Option Int → Option Int → Option D) (a : SE) (l h : SO) : SE := fun ρ c => (a ρ c).bind fun p => (l ρ p.2).bind fun q => (h ρ q.2).bind fun r => (g p.1 q.1 r.1).bind fun z => some (z, r.2)
theorem imp_sl {K : PySem.W.Frag} {r : V → Option Int → Option Int → Hp → VK → Prop} {g : D → Option Int → Option Int → Option D} {te : TE} {tl th : TO} {a : SE} {l u : SO} (hr : SlD K r g) (ha : ImpE K te a) (hl : ImpO K tl l) (hu : ImpO K th u) :
    ImpE K (tSl r te tl th) (sSl g a l u) := fun ad B σ H ρ c d c' Q R h q => by
  unfold sSl at h
  obtain ⟨⟨x, c1⟩, h1, h⟩ := Option.bind_eq_some_iff.mp h
  obtain ⟨⟨y, c2⟩, h2, h⟩ := Option.bind_eq_some_iff.mp h
  obtain ⟨⟨y3, c3⟩, h3, h⟩ := Option.bind_eq_some_iff.mp h
  obtain ⟨z, h4, h⟩ := Option.bind_eq_some_iff.mp h
  cases h
  refine ha ad B σ H ρ c x c1 _ R h1 fun v B1 H1 f1 d1 => ?_
  refine hl ad B1 σ H1 ρ c1 y c2 _ (R.fw f1) h2 fun B2 H2 f2 => ?_
  have f12 := R.trans f1 f2
  refine hu ad B2 σ H2 ρ c2 y3 c3 _ (R.fw f12) h3 fun B3 H3 f3 => ?_
  exact hr B3 H3 v x _ _ _ _ f3.bh (dp_mono (f2.bb.trans f3.bb) _ _ d1) h4 fun w B4 H4 g4 d4 => q w B4 H4 (R.trans (R.trans f12 f3) (g4.fw f3.cell)) d4
end DL
/-! DLc: statements. -/
namespace DL
open PySem PySem.Spec L2

/-! ### what a statement does, on data -/
/-- a statement's way: what it owned may change, the rest stands; what it owns behind it was owned or is new -/
structure FwS (ad : Option Addr) (B : Hp) (σ : L2.St) (H : Hp) (ρ : Rho) (B' : Hp) (σ' : L2.St) (H' : Hp) (ρ' : Rho) : Prop where
  bb : Same B B'
  keep : ∀ a o, ad ≠ some a → H a = some o → ¬ Owned ρ σ a → H' a = some o
  fresh : ∀ a o, B' a = some o → B a = none → H a = none ∨ Owned ρ σ a
  own : ∀ a, Owned ρ' σ' a → Owned ρ σ a ∨ H a = none
/-- .. where the code is left -/
structure FwR (ad : Option Addr) (c' : Dr) (B : Hp) (σ : L2.St) (H : Hp) (ρ : Rho) (B' H' : Hp) : Prop where
  bb : Same B B'
  bh : Same B' H'
  cell : ∀ a, ad = some a → H' a = some (.lst [.int c'.1, .int c'.2])
  keep : ∀ a o, ad ≠ some a → H a = some o → ¬ Owned ρ σ a → H' a = some o
  fresh : ∀ a o, B' a = some o → B a = none → H a = none ∨ Owned ρ σ a
section
variable {K : PySem.W.Frag} {ad : Option Addr} {B B1 B2 B' H H1 H2 H' : Hp} {σ σ1 σ2 : L2.St} {ρ ρ1 ρ2 : Rho} {c c1 c2 : Dr}
theorem Rl.ownB (r : Rl K ad B σ H ρ c) {a : Addr} (h : Owned ρ σ a) : B a = none ∧ ad ≠ some a ∧ ∃ o, H a = some o := by
  obtain ⟨i, s, e1, e2, e3⟩ := h
  have q := r.slot i s e1
  cases s with
  | ol xs =>
    obtain ⟨b, vs, e, h1, h2, h3, _⟩ := q
    rw [e3] at e; cases e
    exact ⟨h2, h3, _, h1⟩
  | od xs =>
    obtain ⟨b, vs, e, h1, h2, h3, _⟩ := q
    rw [e3] at e; cases e
    exact ⟨h2, h3, _, h1⟩
  | _ => cases e2
theorem FwS.trans (r : Rl K ad B σ H ρ c) (r1 : Rl K ad B1 σ1 H1 ρ1 c1) (x : FwS ad B σ H ρ B1 σ1 H1 ρ1) (y : FwS ad B1 σ1 H1 ρ1 B2 σ2 H2 ρ2) : FwS ad B σ H ρ B2 σ2 H2 ρ2 where
  bb := x.bb.trans y.bb
  keep := fun a o n h no => y.keep a o n (x.keep a o n h no) fun z => by
    rcases x.own a z with q | q
    · exact no q
    · rw [h] at q; cases q
  fresh := fun a o h n => by
    cases q : B1 a with
    | some u => exact x.fresh a u q n
    | none =>
      rcases y.fresh a o h q with z | z
      · by_cases w : Owned ρ σ a
        · exact .inr w
        · cases e : H a with
          | none => exact .inl rfl
          | some u =>
            have na : ad ≠ some a := fun z' => by
              have := r1.cell a z'
              rw [z] at this; cases this
            rw [x.keep a u na e w] at z; cases z
      · rcases x.own a z with w | w
        · exact .inr w
        · exact .inl w
  own := fun a z => by
    rcases y.own a z with q | q
    · exact x.own a q
    · by_cases w : Owned ρ σ a
      · exact .inl w
      · cases e : H a with
        | none => exact .inr rfl
        | some u =>
          have na : ad ≠ some a := fun z' => by
            have := r1.cell a z'
            rw [q] at this; cases this
          rw [x.keep a u na e w] at q; cases q
theorem FwS.ret (r : Rl K ad B σ H ρ c) (r1 : Rl K ad B1 σ1 H1 ρ1 c1) (x : FwS ad B σ H ρ B1 σ1 H1 ρ1) (y : FwR ad c2 B1 σ1 H1 ρ1 B2 H2) : FwR ad c2 B σ H ρ B2 H2 where
  bb := x.bb.trans y.bb
  bh := y.bh
  cell := y.cell
  keep := fun a o n h no => y.keep a o n (x.keep a o n h no) fun z => by
    rcases x.own a z with q | q
    · exact no q
    · rw [h] at q; cases q
  fresh := fun a o h n => by
    cases q : B1 a with
    | some u => exact x.fresh a u q n
    | none =>
      rcases y.fresh a o h q with z | z
      · by_cases w : Owned ρ σ a
        · exact .inr w
        · cases e : H a with
          | none => exact .inl rfl
          | some u =>
            have na : ad ≠ some a := fun z' => by
              have := r1.cell a z'
              rw [z] at this; cases this
            rw [x.keep a u na e w] at z; cases z
      · rcases x.own a z with w | w
        · exact .inr w
        · exact .inl w
/-- an expression alone -/
theorem FwS.ofFw (r : Rl K ad B σ H ρ c) (x : Fw ad c1 B H B1 H1) : FwS ad B σ H ρ B1 σ H1 ρ :=
  ⟨x.bb, fun a o n h _ => x.keep a o n h, fun a o h n => .inl (x.fresh a o h n), fun a z => .inl z⟩
theorem FwR.ofFw (r : Rl K ad B σ H ρ c) (x : Fw ad c1 B H B1 H1) : FwR ad c1 B σ H ρ B1 H1 :=
  ⟨x.bb, x.bh, x.cell, fun a o n h _ => x.keep a o n h, fun a o h n => .inl (x.fresh a o h n)⟩
theorem owned_set_of {i : Nat} {o : Option V} {s : Sl} (hl : σ.length = ρ.length) (ho : owns s = false) {a : Addr} (h : Owned (ρ.set i s) (σ.set i o) a) : Owned ρ σ a := by
  obtain ⟨j, t, e1, e2, e3⟩ := h
  by_cases hj : j = i
  · subst hj
    have hx : j < ρ.length := by
      have := (List.getElem?_eq_some_iff.mp e1).1
      rwa [List.length_set] at this
    rw [List.getElem?_set_self hx] at e1
    cases e1
    rw [ho] at e2; cases e2
  · rw [List.getElem?_set_ne (Ne.symm hj)] at e1 e3
    exact ⟨j, t, e1, e2, e3⟩
theorem FwS.setNo (r : Rl K ad B σ H ρ c) {i : Nat} {o : Option V} {s : Sl} (ho : owns s = false) : FwS ad B σ H ρ B (σ.set i o) H (ρ.set i s) :=
  ⟨Same.refl B, fun _ _ _ h _ => h, fun a o h n => (by rw [h] at n; cases n), fun a z => .inl (owned_set_of r.len ho z)⟩
theorem FwS.refl (r : Rl K ad B σ H ρ c) : FwS ad B σ H ρ B σ H ρ :=
  ⟨Same.refl B, fun _ _ _ h _ => h, fun a o h n => (by rw [h] at n; cases n), fun a z => .inl z⟩
end

/-- where a statement's result leads -/
def Post (K : PySem.W.Frag) (D : Ends) (ad : Option Addr) (B : Hp) (σ : L2.St) (H : Hp) (ρ : Rho) : Fl × Rho × Dr → Prop
  | (.nx, ρ', c') => ∀ B' σ' H', Rl K ad B' σ' H' ρ' c' → FwS ad B σ H ρ B' σ' H' ρ' → D.nx σ' H'
  | (.bk, ρ', c') => ∀ B' σ' H', Rl K ad B' σ' H' ρ' c' → FwS ad B σ H ρ B' σ' H' ρ' → D.bk σ' H'
  | (.ct, ρ', c') => ∀ B' σ' H', Rl K ad B' σ' H' ρ' c' → FwS ad B σ H ρ B' σ' H' ρ' → D.ct σ' H'
  | (.rt d, ρ', c') => ∀ v B' σ' H', Rl K ad B' σ' H' ρ' c' → FwS ad B σ H ρ B' σ' H' ρ' → Dp K B' v d → D.rt v H'
def ImpS (K : PySem.W.Frag) (t : TS) (f : SS) : Prop := ∀ (ad : Option Addr) (B : Hp) (σ : L2.St) (H : Hp) (ρ : Rho) (c : Dr) (r : Fl × Rho × Dr) (D : Ends), Rl K ad B σ H ρ c → f ρ c = some r → Post K D ad B σ H ρ r → t D σ H
def ImpG (K : PySem.W.Frag) (t : TG) (g : D → Rho → Option Rho) : Prop := ∀ (ad : Option Addr) (B : Hp) (σ : L2.St) (H : Hp) (ρ : Rho) (c : Dr) (v : V) (d : D) (ρ' : Rho) (Q : L2.St → Hp → Prop), Rl K ad B σ H ρ c → Dp K B v d → g d ρ = some ρ' →
  (∀ σ', Rl K ad B σ' H ρ' c → FwS ad B σ H ρ B σ' H ρ' → Q σ' H) → t v σ H Q
def ImpGs (K : PySem.W.Frag) (t : TGs) (g : List D → Rho → Option Rho) : Prop := ∀ (ad : Option Addr) (B : Hp) (σ : L2.St) (H : Hp) (ρ : Rho) (c : Dr) (vs : List V) (ds : List D) (ρ' : Rho) (Q : L2.St → Hp → Prop), Rl K ad B σ H ρ c → DpAll K B vs ds → g ds ρ = some ρ' →
  (∀ σ', Rl K ad B σ' H ρ' c → FwS ad B σ H ρ B σ' H ρ' → Q σ' H) → t vs σ H Q
section
variable {K : PySem.W.Frag}
/-! targets -/
def qN (i : Nat) : D → Rho → Option Rho := fun d ρ => some (ρ.set i (.im d))
theorem imp_gN (i : Nat) : ImpG K (gName i) (qN i) := fun ad B σ H ρ c v d ρ' Q r hd h q => by
  cases h
  exact q _ (r.setIm hd) (FwS.setNo r rfl)
def qNil : List D → Rho → Option Rho := fun ds ρ => match ds with
  | [] => some ρ
  | _ => none
def qCons (g : D → Rho → Option Rho) (h : List D → Rho → Option Rho) : List D → Rho → Option Rho := fun ds ρ => match ds with
  | d :: ds => (g d ρ).bind fun ρ' => h ds ρ'
  | [] => none
theorem imp_gNil : ImpGs K gNil qNil := fun ad B σ H ρ c vs ds ρ' Q r hd h q => by
  cases ds with
  | nil =>
    cases hd
    cases h
    exact ⟨rfl, q _ r (FwS.refl r)⟩
  | cons => cases h
theorem imp_gCons {t : TG} {u : TGs} {g : D → Rho → Option Rho} {g' : List D → Rho → Option Rho} (h1 : ImpG K t g) (h2 : ImpGs K u g') : ImpGs K (gCons t u) (qCons g g') := fun ad B σ H ρ c vs ds ρ' Q r hd h q => by
  cases ds with
  | nil => cases h
  | cons d ds =>
    cases hd with
    | cons hv hr =>
      obtain ⟨ρ1, e1, e2⟩ := Option.bind_eq_some_iff.mp h
      exact ⟨_, _, rfl, h1 ad B σ H ρ c _ d ρ1 _ r hv e1 fun σ1 r1 f1 => h2 ad B σ1 H ρ1 c _ ds ρ' Q r1 hr e2 fun σ2 r2 f2 => q σ2 r2 (FwS.trans r r1 f1 f2)⟩
def qTup (g : List D → Rho → Option Rho) : D → Rho → Option Rho := fun d ρ => match d with
  | .tuple ds => g ds ρ
  | _ => none
theorem imp_gTup {n : Nat} {u : TGs} {g : List D → Rho → Option Rho} (h : ImpGs K u g) (hn : ∀ ds ρ ρ', g ds ρ = some ρ' → ds.length = n) : ImpG K (gTup K n u) (qTup g) := fun ad B σ H ρ c v d ρ' Q r hd e q => by
  cases d with
  | tuple ds =>
    obtain ⟨a, xs, rfl, h1, h2⟩ := dp_tuple hd
    exact ⟨a, xs, rfl, SqT.of (r.sub _ _ h1), (dpAll_len h2).trans (hn ds ρ ρ' e), h ad B σ H ρ c xs ds ρ' Q r h2 e q⟩
  | _ => cases e
theorem qNil_len : ∀ ds ρ ρ', qNil ds ρ = some ρ' → ds.length = 0 := fun ds ρ ρ' h => by
  cases ds with
  | nil => rfl
  | cons => cases h
theorem qCons_len {g : D → Rho → Option Rho} {g' : List D → Rho → Option Rho} {n : Nat} (h : ∀ ds ρ ρ', g' ds ρ = some ρ' → ds.length = n) : ∀ ds ρ ρ', qCons g g' ds ρ = some ρ' → ds.length = n + 1 := fun ds ρ ρ' e => by
  cases ds with
  | nil => cases e
  | cons d ds =>
    obtain ⟨ρ1, e1, e2⟩ := Option.bind_eq_some_iff.mp e
    rw [List.length_cons, h ds ρ1 ρ' e2]

/-! blocks -/
def sNext : SS := fun ρ c => some (.nx, ρ, c)
theorem imp_next : ImpS K tNext sNext := fun ad B σ H ρ c r D R h q => by
  cases h
  exact q B σ H R (FwS.refl R)
def sSeq (f g : SS) : SS := fun ρ c => (f ρ c).bind fun r => match r with
  | (.nx, ρ1, c1) => g ρ1 c1
  | r => some r
theorem Post.trans {D : Ends} {ad : Option Addr} {B B1 : Hp} {σ σ1 : L2.St} {H H1 : Hp} {ρ ρ1 : Rho} {c c1 : Dr} {r : Fl × Rho × Dr} (R : Rl K ad B σ H ρ c) (R1 : Rl K ad B1 σ1 H1 ρ1 c1) (x : FwS ad B σ H ρ B1 σ1 H1 ρ1)
    (h : Post K D ad B σ H ρ r) : Post K D ad B1 σ1 H1 ρ1 r := by
  obtain ⟨f, ρ', c'⟩ := r
  cases f with
  | nx => exact fun B' σ' H' r' y => h B' σ' H' r' (FwS.trans R R1 x y)
  | bk => exact fun B' σ' H' r' y => h B' σ' H' r' (FwS.trans R R1 x y)
  | ct => exact fun B' σ' H' r' y => h B' σ' H' r' (FwS.trans R R1 x y)
  | rt d => exact fun v B' σ' H' r' y e => h v B' σ' H' r' (FwS.trans R R1 x y) e
theorem imp_seq {t u : TS} {f g : SS} (h1 : ImpS K t f) (h2 : ImpS K u g) : ImpS K (tSeq t u) (sSeq f g) := fun ad B σ H ρ c r D R h q => by
  obtain ⟨r1, e1, e2⟩ := Option.bind_eq_some_iff.mp h
  refine h1 ad B σ H ρ c r1 _ R e1 ?_
  obtain ⟨f1, ρ1, c1⟩ := r1
  cases f1 with
  | nx => exact fun B' σ' H' r' x => h2 ad B' σ' H' ρ1 c1 r D r' e2 (Post.trans R r' x q)
  | bk => cases e2; exact q
  | ct => cases e2; exact q
  | rt d => cases e2; exact q
theorem imp_never {f : SS} (h : ∀ ρ c, f ρ c = none) : ImpS K tNever f := fun ad B σ H ρ c r D R e q => by
  rw [h] at e; cases e
def sNever : SS := fun _ _ => none
def sRet (a : SE) : SS := fun ρ c => (a ρ c).bind fun p => some (.rt p.1, ρ, p.2)
theorem imp_ret {t : TE} {a : SE} (h : ImpE K t a) : ImpS K (tRet t) (sRet a) := fun ad B σ H ρ c r D R e q => by
  obtain ⟨⟨d, c1⟩, e1, e2⟩ := Option.bind_eq_some_iff.mp e
  cases e2
  exact h ad B σ H ρ c d c1 _ R e1 fun v B' H' x dv => q v B' σ H' (R.fw x) (FwS.ofFw R x) dv
def sIfS (t : SB) (f g : SS) : SS := fun ρ c => (t ρ c).bind fun p => if p.1 = true then f ρ p.2 else g ρ p.2
theorem imp_if {t : TT} {u v : TS} {s : SB} {f g : SS} (ht : ImpT K t s) (h1 : ImpS K u f) (h2 : ImpS K v g) : ImpS K (tIfS t u v) (sIfS s f g) := fun ad B σ H ρ c r D R e q => by
  obtain ⟨⟨b, c1⟩, e1, e2⟩ := Option.bind_eq_some_iff.mp e
  refine ht ad B σ H ρ c b c1 _ R e1 fun B1 H1 x => ?_
  cases b with
  | true => exact h1 ad B1 σ H1 ρ c1 r D (R.fw x) e2 (Post.trans R (R.fw x) (FwS.ofFw R x) q)
  | false => exact h2 ad B1 σ H1 ρ c1 r D (R.fw x) e2 (Post.trans R (R.fw x) (FwS.ofFw R x) q)
/-! stores -/
def sAsg (a : SE) (g : D → Rho → Option Rho) : SS := fun ρ c => (a ρ c).bind fun p => (g p.1 ρ).bind fun ρ' => some (.nx, ρ', p.2)
theorem imp_asg {t : TE} {u : TG} {a : SE} {g : D → Rho → Option Rho} (h : ImpE K t a) (hg : ImpG K u g) : ImpS K (tAsg t u) (sAsg a g) := fun ad B σ H ρ c r D R e q => by
  obtain ⟨⟨d, c1⟩, e1, e2⟩ := Option.bind_eq_some_iff.mp e
  obtain ⟨ρ', e3, e4⟩ := Option.bind_eq_some_iff.mp e2
  cases e4
  refine h ad B σ H ρ c d c1 _ R e1 fun v B' H' x dv => ?_
  exact hg ad B' σ H' ρ c1 v d ρ' _ (R.fw x) dv e3 fun σ' r' y => q B' σ' H' r' (FwS.trans R (R.fw x) (FwS.ofFw R x) y)
/-- x op= e at plain data -/
def sAug (g : D → D → Option D) (i : Nat) (a : SE) : SS := fun ρ c => match ρ[i]? with
  | some (.im d) => (a ρ c).bind fun p => (g d p.1).bind fun z => some (.nx, ρ.set i (.im z), p.2)
  | _ => none
/-! ### lists of one's own -/
/-- an expression that makes a new list: its items -/
abbrev SL := Rho → Dr → Option (List D × Dr)
def ImpL (K : PySem.W.Frag) (t : TE) (f : SL) : Prop := ∀ (ad : Option Addr) (B : Hp) (σ : L2.St) (H : Hp) (ρ : Rho) (c : Dr) (ds : List D) (c' : Dr) (Q : VK), Rl K ad B σ H ρ c → f ρ c = some (ds, c') →
  (∀ a vs B' H' H1, Fw ad c' B H B' H1 → H1 a = none → H' = upd H1 a (.lst vs) → DpAll K B' vs ds → Q (.ref a) H') → t σ H Q
/-- as plain data -/
def sOfL (f : SL) : SE := fun ρ c => (f ρ c).bind fun p => some (.list p.1, p.2)
theorem imp_ofL {t : TE} {f : SL} (h : ImpL K t f) : ImpE K t (sOfL f) := fun ad B σ H ρ c d c' Q R e q => by
  obtain ⟨⟨ds, c1⟩, e1, e2⟩ := Option.bind_eq_some_iff.mp e
  cases e2
  refine h ad B σ H ρ c ds _ _ R e1 fun a vs B' H' H1 x n eH dv => ?_
  subst eH
  exact q _ (upd B' a (.lst vs)) _ (R.trans x ((Grow.new x.bh n).fw x.cell)) (dp_newLst (x.bh.free n) dv)
theorem Rl.setOl {ad : Option Addr} {B H : Hp} {σ : L2.St} {ρ : Rho} {c : Dr} (r : Rl K ad B σ H ρ c) {i : Nat} {a : Addr} {vs : List V} {ds : List D} (n : H a = none) (h : DpAll K B vs ds) :
    Rl K ad B (σ.set i (some (.ref a))) (upd H a (.lst vs)) (ρ.set i (.ol ds)) c ∧ FwS ad B σ H ρ B (σ.set i (some (.ref a))) (upd H a (.lst vs)) (ρ.set i (.ol ds)) := by
  have nb : B a = none := r.sub.free n
  have na : ad ≠ some a := fun e => by rw [r.cell a e] at n; cases n
  have sm : Same H (upd H a (.lst vs)) := same_new n
  have nown : ∀ b, Owned ρ σ b → b ≠ a := fun b ho e => by
    obtain ⟨_, _, o, q⟩ := r.ownB ho
    rw [e, n] at q; cases q
  have x : Fw ad c B H B (upd H a (.lst vs)) := ⟨Same.refl B, fun b o q => sm b o (r.sub b o q), fun b o _ q => sm b o q, fun b e => sm b _ (r.cell b e), fun b o q1 q2 => by rw [q1] at q2; cases q2⟩
  have R1 := r.fw x
  refine ⟨⟨R1.sub, R1.cell, R1.cfree, by rw [List.length_set, List.length_set]; exact r.len, fun j s e => ?_, fun j k s t b hjk e1 e2 o1 o2 g1 => ?_⟩, ⟨Same.refl B, fun b o _ q _ => sm b o q, fun b o q1 q2 => (by rw [q1] at q2; cases q2), fun b ho => ?_⟩⟩
  · by_cases hj : j = i
    · subst hj
      have hl : j < ρ.length := by
        have := (List.getElem?_eq_some_iff.mp e).1
        rwa [List.length_set] at this
      rw [List.getElem?_set_self hl] at e
      cases e
      rw [List.getElem?_set_self (by rw [r.len]; exact hl)]
      exact ⟨a, vs, rfl, upd_same, nb, na, h⟩
    · rw [List.getElem?_set_ne (Ne.symm hj)] at e ⊢
      exact R1.slot j s e
  · by_cases hj : j = i
    · subst hj
      have hl : j < ρ.length := by
        have := (List.getElem?_eq_some_iff.mp e1).1
        rwa [List.length_set] at this
      rw [List.getElem?_set_self (by rw [r.len]; exact hl)] at g1
      cases g1
      rw [List.getElem?_set_ne hjk] at e2 ⊢
      exact fun z => nown _ ⟨k, t, e2, o2, z⟩ rfl
    · rw [List.getElem?_set_ne (Ne.symm hj)] at e1 g1
      by_cases hk : k = i
      · subst hk
        have hl : k < ρ.length := by
          have := (List.getElem?_eq_some_iff.mp e2).1
          rwa [List.length_set] at this
        rw [List.getElem?_set_self (by rw [r.len]; exact hl)]
        exact fun z => by
          cases z
          exact nown _ ⟨j, s, e1, o1, g1⟩ rfl
      · rw [List.getElem?_set_ne (Ne.symm hk)] at e2 ⊢
        exact r.sep j k s t b hjk e1 e2 o1 o2 g1
  · obtain ⟨j, t, e1, e2, e3⟩ := ho
    by_cases hj : j = i
    · subst hj
      have hl : j < ρ.length := by
        have := (List.getElem?_eq_some_iff.mp e1).1
        rwa [List.length_set] at this
      rw [List.getElem?_set_self (by rw [r.len]; exact hl)] at e3
      cases e3
      exact .inr n
    · rw [List.getElem?_set_ne (Ne.symm hj)] at e1 e3
      exact .inl ⟨j, t, e1, e2, e3⟩
/-- x = a new list, to be changed -/
def sAsgL (f : SL) (i : Nat) : SS := fun ρ c => (f ρ c).bind fun p => some (.nx, ρ.set i (.ol p.1), p.2)
theorem imp_asgL {t : TE} {f : SL} (i : Nat) (h : ImpL K t f) : ImpS K (tAsg t (gName i)) (sAsgL f i) := fun ad B σ H ρ c r D R e q => by
  obtain ⟨⟨ds, c1⟩, e1, e2⟩ := Option.bind_eq_some_iff.mp e
  cases e2
  refine h ad B σ H ρ c ds c1 _ R e1 fun a vs B' H' H1 x n eH dv => ?_
  subst eH
  obtain ⟨r2, y⟩ := (R.fw x).setOl (i := i) n dv
  exact q B' _ _ r2 (FwS.trans R (R.fw x) (FwS.ofFw R x) y)
/-- the object at a slot of one's own is changed -/
theorem Rl.chOwn {ad : Option Addr} {B H : Hp} {σ : L2.St} {ρ : Rho} {c : Dr} (r : Rl K ad B σ H ρ c) {i : Nat} {a : Addr} {s s' : Sl} {o' : HO} (e : ρ[i]? = some s) (ho : owns s = true) (eσ : σ[i]? = some (some (.ref a)))
    (hs : SlOk K ad B (upd H a o') (some (some (.ref a))) s') : Rl K ad B σ (upd H a o') (ρ.set i s') c ∧ FwS ad B σ H ρ B σ (upd H a o') (ρ.set i s') := by
  obtain ⟨nb, na, o0, h0⟩ := r.ownB ⟨i, s, e, ho, eσ⟩
  have hl : i < ρ.length := (List.getElem?_eq_some_iff.mp e).1
  have other : ∀ (j : Nat) (t : Sl) (b : Addr), j ≠ i → ρ[j]? = some t → σ[j]? = some (some (.ref b)) → owns t = true → b ≠ a := fun j t b hj e1 e2 e3 z => by
    subst z
    exact r.sep i j s t b (Ne.symm hj) e e1 ho e3 eσ e2
  have own' : ∀ b, Owned (ρ.set i s') σ b → Owned ρ σ b := fun b ⟨j, t, e1, e2, e3⟩ => by
    by_cases hj : j = i
    · subst hj; exact ⟨j, s, e, ho, e3⟩
    · rw [List.getElem?_set_ne (Ne.symm hj)] at e1
      exact ⟨j, t, e1, e2, e3⟩
  refine ⟨⟨fun b o q => ?_, fun b q => ?_, r.cfree, by rw [List.length_set]; exact r.len, fun j t e1 => ?_, fun j k t t' b hjk e1 e2 o1 o2 g1 => ?_⟩, ⟨Same.refl B, fun b o n q no => ?_, fun b o q1 q2 => (by rw [q1] at q2; cases q2), fun b z => .inl (own' b z)⟩⟩
  · rw [upd_ne (fun z => by subst z; rw [nb] at q; cases q)]; exact r.sub b o q
  · rw [upd_ne (fun z => by subst z; exact na q)]; exact r.cell b q
  · by_cases hj : j = i
    · subst hj
      rw [List.getElem?_set_self hl] at e1
      cases e1
      rw [eσ]
      exact hs
    · rw [List.getElem?_set_ne (Ne.symm hj)] at e1
      have q := r.slot j t e1
      cases t with
      | un => trivial
      | im d => exact q
      | ol xs =>
        obtain ⟨b, us, g1, g2, g3, g4, g5⟩ := q
        exact ⟨b, us, g1, by rw [upd_ne (other j _ b hj e1 g1 rfl)]; exact g2, g3, g4, g5⟩
      | od xs =>
        obtain ⟨b, us, g1, g2, g3, g4, g5⟩ := q
        exact ⟨b, us, g1, by rw [upd_ne (other j _ b hj e1 g1 rfl)]; exact g2, g3, g4, g5⟩
      | fd xs =>
        obtain ⟨b, w, us, g1, g2, g3, g4, g5⟩ := q
        refine ⟨b, w, us, g1, ?_, g3, g4, g5⟩
        rw [upd_ne (fun z => ?_)]
        · exact g2
        · subst z
          have q2 := r.slot i s e
          cases s with
          | ol ys =>
            obtain ⟨b', us', k1, k2, _⟩ := q2
            rw [eσ] at k1; cases k1
            rw [g2] at k2; cases k2
          | od ys =>
            obtain ⟨b', us', k1, k2, _⟩ := q2
            rw [eσ] at k1; cases k1
            rw [g2] at k2; cases k2
          | _ => cases ho
      | op v => exact q
      | dr => exact q
  · have p1 : ∃ s', ρ[j]? = some s' ∧ owns s' = true := by
      by_cases hj : j = i
      · subst hj; exact ⟨s, e, ho⟩
      · rw [List.getElem?_set_ne (Ne.symm hj)] at e1; exact ⟨t, e1, o1⟩
    have p2 : ∃ s', ρ[k]? = some s' ∧ owns s' = true := by
      by_cases hk : k = i
      · subst hk; exact ⟨s, e, ho⟩
      · rw [List.getElem?_set_ne (Ne.symm hk)] at e2; exact ⟨t', e2, o2⟩
    obtain ⟨s1, f1, f2⟩ := p1
    obtain ⟨s2, f3, f4⟩ := p2
    exact r.sep j k s1 s2 b hjk f1 f3 f2 f4 g1
  · rw [upd_ne (fun z => by subst z; exact no ⟨i, s, e, ho, eσ⟩)]; exact q
theorem Rl.chOl {ad : Option Addr} {B H : Hp} {σ : L2.St} {ρ : Rho} {c : Dr} (r : Rl K ad B σ H ρ c) {i : Nat} {a : Addr} {s : Sl} {vs : List V} {ds : List D} (e : ρ[i]? = some s) (ho : owns s = true) (eσ : σ[i]? = some (some (.ref a)))
    (h : DpAll K B vs ds) : Rl K ad B σ (upd H a (.lst vs)) (ρ.set i (.ol ds)) c ∧ FwS ad B σ H ρ B σ (upd H a (.lst vs)) (ρ.set i (.ol ds)) := by
  obtain ⟨nb, na, _⟩ := r.ownB ⟨i, s, e, ho, eσ⟩
  exact r.chOwn e ho eσ ⟨a, vs, rfl, upd_same, nb, na, h⟩
/-- an object that nobody owns is put at a slot -/
theorem Rl.putOwn {ad : Option Addr} {B H : Hp} {σ : L2.St} {ρ : Rho} {c : Dr} (r : Rl K ad B σ H ρ c) {i : Nat} {a : Addr} {s : Sl} (no : ¬ Owned ρ σ a) (hs : SlOk K ad B H (some (some (.ref a))) s) :
    Rl K ad B (σ.set i (some (.ref a))) H (ρ.set i s) c ∧ ∀ b, Owned (ρ.set i s) (σ.set i (some (.ref a))) b → Owned ρ σ b ∨ b = a := by
  have p : ∀ {j : Nat} {t : Sl}, (ρ.set i s)[j]? = some t → (j = i ∧ t = s ∧ (σ.set i (some (.ref a)))[j]? = some (some (.ref a))) ∨ (j ≠ i ∧ ρ[j]? = some t ∧ (σ.set i (some (.ref a)))[j]? = σ[j]?) := fun {j t} e => by
    by_cases hj : j = i
    · subst hj
      have hl : j < ρ.length := by
        have := (List.getElem?_eq_some_iff.mp e).1
        rwa [List.length_set] at this
      rw [List.getElem?_set_self hl] at e
      cases e
      exact .inl ⟨rfl, rfl, List.getElem?_set_self (by rw [r.len]; exact hl)⟩
    · rw [List.getElem?_set_ne (Ne.symm hj)] at e
      exact .inr ⟨hj, e, List.getElem?_set_ne (Ne.symm hj)⟩
  refine ⟨⟨r.sub, r.cell, r.cfree, by rw [List.length_set, List.length_set]; exact r.len, fun j t e => ?_, fun j k t t' b hjk e1 e2 o1 o2 g => ?_⟩, fun b ⟨j, t, e1, e2, e3⟩ => ?_⟩
  · rcases p e with ⟨z1, z2, z3⟩ | ⟨z1, z2, z3⟩
    · rw [z3, z2]; exact hs
    · rw [z3]; exact r.slot j t z2
  · rcases p e1 with ⟨z1, z2, z3⟩ | ⟨z1, z2, z3⟩
    · rcases p e2 with ⟨y1, y2, y3⟩ | ⟨y1, y2, y3⟩
      · exact absurd (z1.trans y1.symm) hjk
      · rw [z3] at g
        cases g
        rw [y3]
        exact fun z => no ⟨k, t', y2, o2, z⟩
    · rcases p e2 with ⟨y1, y2, y3⟩ | ⟨y1, y2, y3⟩
      · rw [y3]
        rw [z3] at g
        exact fun z => by
          cases z
          exact no ⟨j, t, z2, o1, g⟩
      · rw [z3] at g
        rw [y3]
        exact r.sep j k t t' b hjk z2 y2 o1 o2 g
  · rcases p e1 with ⟨z1, z2, z3⟩ | ⟨z1, z2, z3⟩
    · rw [z3] at e3
      cases e3
      exact .inr rfl
    · rw [z3] at e3
      exact .inl ⟨j, t, z2, e2, e3⟩
/-! freeze, forget -/
theorem Rl.frz {ad : Option Addr} {B H : Hp} {σ : L2.St} {ρ : Rho} {c : Dr} (r : Rl K ad B σ H ρ c) {i : Nat} {ds : List D} (e : ρ[i]? = some (.ol ds)) : ∃ B', Rl K ad B' σ H (ρ.set i (.im (.list ds))) c ∧ FwS ad B σ H ρ B' σ H (ρ.set i (.im (.list ds))) ∧
    ∃ a vs, σ[i]? = some (some (.ref a)) ∧ B a = none ∧ B' = upd B a (.lst vs) ∧ H a = some (.lst vs) ∧ ad ≠ some a := by
  obtain ⟨a, vs, g1, g2, g3, g4, g5⟩ := r.slot i _ e
  have hl : i < ρ.length := (List.getElem?_eq_some_iff.mp e).1
  have bb : Same B (upd B a (.lst vs)) := same_new g3
  have oth : ∀ (j : Nat) (t : Sl) (b : Addr), j ≠ i → ρ[j]? = some t → owns t = true → σ[j]? = some (some (.ref b)) → b ≠ a := fun j t b hj e1 o1 g z => by
    subst z
    exact r.sep i j _ t b (Ne.symm hj) e e1 rfl o1 g1 g
  refine ⟨upd B a (.lst vs), ⟨fun b o q => ?_, r.cell, fun b q => ?_, by rw [List.length_set]; exact r.len, fun j t e1 => ?_, fun j k s t b hjk e1 e2 o1 o2 z => ?_⟩, ⟨bb, fun _ _ _ q _ => q, fun b o q n => ?_, fun b z => ?_⟩, a, vs, g1, g3, rfl, g2, g4⟩
  · by_cases hb : b = a
    · subst hb; rw [upd_same] at q; cases q; exact g2
    · rw [upd_ne hb] at q; exact r.sub b o q
  · rw [upd_ne (fun z => by subst z; exact g4 q)]; exact r.cfree b q
  · by_cases hj : j = i
    · subst hj
      rw [List.getElem?_set_self hl] at e1
      cases e1
      exact ⟨.ref a, g1, dp_newLst g3 g5⟩
    · rw [List.getElem?_set_ne (Ne.symm hj)] at e1
      have q := r.slot j t e1
      cases t with
      | un => trivial
      | im d => obtain ⟨v, k1, k2⟩ := q; exact ⟨v, k1, dp_mono bb _ _ k2⟩
      | ol xs =>
        obtain ⟨b, us, k1, k2, k3, k4, k5⟩ := q
        exact ⟨b, us, k1, k2, by rw [upd_ne (oth j _ b hj e1 rfl k1)]; exact k3, k4, dpAll_mono bb _ _ k5⟩
      | od xs =>
        obtain ⟨b, us, k1, k2, k3, k4, k5⟩ := q
        exact ⟨b, us, k1, k2, by rw [upd_ne (oth j _ b hj e1 rfl k1)]; exact k3, k4, kv_mono bb k5⟩
      | fd xs =>
        obtain ⟨b, w, us, k1, k2, k3, k4, k5⟩ := q
        refine ⟨b, w, us, k1, k2, ?_, k4, kv_mono bb k5⟩
        rw [upd_ne (fun z => by subst z; rw [g2] at k2; cases k2)]
        exact k3
      | op v => exact q
      | dr => exact q
  · have n1 : j ≠ i := fun z' => by
      subst z'
      rw [List.getElem?_set_self hl] at e1; cases e1; cases o1
    have n2 : k ≠ i := fun z' => by
      subst z'
      rw [List.getElem?_set_self hl] at e2; cases e2; cases o2
    rw [List.getElem?_set_ne (Ne.symm n1)] at e1
    rw [List.getElem?_set_ne (Ne.symm n2)] at e2
    exact r.sep j k s t b hjk e1 e2 o1 o2 z
  · by_cases hb : b = a
    · subst hb; exact .inr ⟨i, _, e, rfl, g1⟩
    · rw [upd_ne hb, n] at q; cases q
  · obtain ⟨j, t, e1, e2, e3⟩ := z
    have n1 : j ≠ i := fun z' => by
      subst z'
      rw [List.getElem?_set_self hl] at e1; cases e1; cases e2
    rw [List.getElem?_set_ne (Ne.symm n1)] at e1
    exact .inl ⟨j, t, e1, e2, e3⟩
/-- from here on the list at i is plain data -/
def sFrz (i : Nat) (f : SS) : SS := fun ρ c => match ρ[i]? with
  | some (.ol ds) => f (ρ.set i (.im (.list ds))) c
  | _ => none
theorem imp_frz {t : TS} {f : SS} (i : Nat) (h : ImpS K t f) : ImpS K t (sFrz i f) := fun ad B σ H ρ c r D R e q => by
  unfold sFrz at e
  split at e
  · rename_i ds e0
    obtain ⟨B', R', x, _⟩ := R.frz e0
    exact h ad B' σ H _ c r D R' e (Post.trans R R' x q)
  · cases e
theorem Rl.forget {ad : Option Addr} {B H : Hp} {σ : L2.St} {ρ : Rho} {c : Dr} (r : Rl K ad B σ H ρ c) (i : Nat) : Rl K ad B σ H (ρ.set i .un) c ∧ FwS ad B σ H ρ B σ H (ρ.set i .un) := by
  have p : ∀ {j : Nat} {s : Sl}, (ρ.set i .un)[j]? = some s → s = .un ∨ ρ[j]? = some s := fun {j s} e => by
    by_cases hj : j = i
    · subst hj
      have hl : j < ρ.length := by
        have := (List.getElem?_eq_some_iff.mp e).1
        rwa [List.length_set] at this
      rw [List.getElem?_set_self hl] at e
      cases e; exact .inl rfl
    · rw [List.getElem?_set_ne (Ne.symm hj)] at e; exact .inr e
  refine ⟨⟨r.sub, r.cell, r.cfree, by rw [List.length_set]; exact r.len, fun j s e => ?_, fun j k s t a hjk e1 e2 o1 o2 g => ?_⟩, ⟨Same.refl B, fun _ _ _ q _ => q, fun b o q n => (by rw [q] at n; cases n), fun a ⟨j, s, e1, e2, e3⟩ => ?_⟩⟩
  · rcases p e with z | z
    · subst z; trivial
    · exact r.slot j s z
  · rcases p e1 with z | z
    · subst z; cases o1
    · rcases p e2 with z' | z'
      · subst z'; cases o2
      · exact r.sep j k s t a hjk z z' o1 o2 g
  · rcases p e1 with z | z
    · subst z; cases e2
    · exact .inl ⟨j, s, z, e2, e3⟩
def unset (is : List Nat) (ρ : Rho) : Rho := is.foldl (fun ρ i => ρ.set i .un) ρ
theorem Rl.forgets {ad : Option Addr} {B H : Hp} {σ : L2.St} : ∀ (is : List Nat) {ρ : Rho} {c : Dr}, Rl K ad B σ H ρ c → Rl K ad B σ H (unset is ρ) c ∧ FwS ad B σ H ρ B σ H (unset is ρ)
  | [], ρ, c, r => ⟨r, FwS.refl r⟩
  | i :: is, ρ, c, r => by
    obtain ⟨r1, f1⟩ := r.forget i
    obtain ⟨r2, f2⟩ := Rl.forgets is r1
    exact ⟨r2, FwS.trans r r1 f1 f2⟩
end
end DL
/-! DLd: changes of one's own lists; loops; comprehensions; calls. -/
namespace DL
open PySem PySem.Spec L2
section
variable {K : PySem.W.Frag}

/-! ### a list of one's own -/
theorem dpAll_at {B : Hp} {ds : List D} {vs : List V} {i : Int} {d : D} (h : DpAll K B vs ds) (e : atI ds i = some d) : ∃ v, atI vs i = some v ∧ Dp K B v d := by
  unfold atI at e ⊢
  rw [dpAll_len h]
  obtain ⟨j, e1, e2⟩ := Option.bind_eq_some_iff.mp e
  rw [e1]
  exact dpAll_get h e2
/-- x.append(e) -/
def sApp (i : Nat) (a : SE) : SS := fun ρ c => match ρ[i]? with
  | some (.ol xs) => (a ρ c).bind fun p => if few xs.length = true then some (.nx, ρ.set i (.ol (xs ++ [p.1])), p.2) else none
  | _ => none
theorem imp_app {i : Nat} {t : TE} {a : SE} (h : ImpE K t a) : ImpS K (tDrop (tBM K "list" rAppend (tVar i) (tCons t tNil))) (sApp i a) := fun ad B σ H ρ c r D R e q => by
  unfold sApp at e
  split at e
  · rename_i xs e0
    obtain ⟨⟨d, c1⟩, e1, e2⟩ := Option.bind_eq_some_iff.mp e
    split at e2
    · rename_i hz
      cases e2
      obtain ⟨p, vs, g1, g2, g3, g4, g5⟩ := R.slot i _ e0
      refine ⟨.ref p, g1, .inl ⟨rfl, _, SqL.of g2⟩, h ad B σ H ρ c d c1 _ R e1 fun v B1 H1 x dv => ?_⟩
      have R1 := R.fw x
      have hp : H1 p = some (.lst vs) := x.keep p _ g4 g2
      obtain ⟨R2, y⟩ := R1.chOl e0 rfl g1 (dpAll_snoc (dpAll_mono x.bb _ _ g5) dv)
      refine ⟨p, vs, v, rfl, rfl, hp, by rw [dpAll_len g5]; exact few_lt hz, ?_⟩
      exact q B1 σ _ R2 (FwS.trans R R1 (FwS.ofFw R x) y)
    · cases e2
  · cases e
/-- x[k] = e -/
def sSetI (i : Nat) (k a : SE) : SS := fun ρ c => match ρ[i]? with
  | some (.ol xs) => (a ρ c).bind fun p => (k ρ p.2).bind fun q => match q.1 with
    | .int j => (ixN xs.length j).bind fun m => some (.nx, ρ.set i (.ol (xs.set m p.1)), q.2)
    | _ => none
  | _ => none
theorem imp_setI {i : Nat} {t u : TE} {k a : SE} (hk : ImpE K u k) (h : ImpE K t a) : ImpS K (tAsg t (gSub (tVar i) u rSetL)) (sSetI i k a) := fun ad B σ H ρ c r D R e q => by
  unfold sSetI at e
  split at e
  · rename_i xs e0
    obtain ⟨⟨d, c1⟩, e1, e2⟩ := Option.bind_eq_some_iff.mp e
    obtain ⟨⟨kd, c2⟩, e3, e4⟩ := Option.bind_eq_some_iff.mp e2
    cases kd with
    | int j =>
      obtain ⟨m, e5, e6⟩ := Option.bind_eq_some_iff.mp e4
      cases e6
      refine h ad B σ H ρ c d c1 _ R e1 fun v B1 H1 x dv => ?_
      have R1 := R.fw x
      obtain ⟨p, vs, g1, g2, g3, g4, g5⟩ := R1.slot i _ e0
      refine ⟨.ref p, g1, hk ad B1 σ H1 ρ c1 (.int j) c2 _ R1 e3 fun w B2 H2 y dw => ?_⟩
      have R2 := R1.fw y
      have hp : H2 p = some (.lst vs) := y.keep p _ g4 g2
      obtain ⟨R3, z⟩ := R2.chOl e0 rfl g1 (dpAll_set (dp_mono y.bb _ _ dv) m (dpAll_mono y.bb _ _ g5))
      refine ⟨p, vs, j, m, rfl, dp_int dw, hp, by rw [dpAll_len g5]; exact e5, ?_⟩
      exact q B2 σ _ R3 (FwS.trans R R2 (FwS.trans R R1 (FwS.ofFw R x) (FwS.ofFw R1 y)) z)
    | _ => cases e4
  · cases e
/-- x[k] of a list of one's own -/
def sIxO (i : Nat) (k : SE) : SE := fun ρ c => match ρ[i]? with
  | some (.ol xs) => (k ρ c).bind fun q => match q.1 with
    | .int j => (atI xs j).bind fun x0 => some (x0, q.2)
    | _ => none
  | _ => none
theorem imp_ixO {i : Nat} {u : TE} {k : SE} (hk : ImpE K u k) : ImpE K (tOp (rIx K) (tVar i) u) (sIxO i k) := fun ad B σ H ρ c d c' Q R e q => by
  unfold sIxO at e
  split at e
  · rename_i xs e0
    obtain ⟨⟨kd, c1⟩, e1, e2⟩ := Option.bind_eq_some_iff.mp e
    cases kd with
    | int j =>
      obtain ⟨x0, e3, e4⟩ := Option.bind_eq_some_iff.mp e2
      cases e4
      obtain ⟨p, vs, g1, g2, g3, g4, g5⟩ := R.slot i _ e0
      refine ⟨.ref p, g1, hk ad B σ H ρ c (.int j) _ _ R e1 fun w B1 H1 x dw => ?_⟩
      have hp1 : H1 p = some (.lst vs) := x.keep p _ g4 g2
      obtain ⟨v0, a1, a2⟩ := dpAll_at (i := j) (dpAll_mono x.bb _ _ g5) e3
      exact .inl ⟨p, vs, j, v0, rfl, dp_int dw, SqL.of hp1, a1, q v0 B1 H1 x a2⟩
    | _ => cases e2
  · cases e
/-- an answer that is a scalar, reckoned as if the list at i were plain data -/
def sFl (i : Nat) (f : SE) : SE := fun ρ c => match ρ[i]? with
  | some (.ol xs) => (f (ρ.set i (.im (.list xs))) c).bind fun p => if flatD p.1 = true then some p else none
  | _ => none
def sFlT (i : Nat) (f : SB) : SB := fun ρ c => match ρ[i]? with
  | some (.ol xs) => f (ρ.set i (.im (.list xs))) c
  | _ => none
theorem Fw.cut {ad : Option Addr} {c' : Dr} {B H B' H' : Hp} {a : Addr} {vs : List V} (n : B a = none) (hH : H a = some (.lst vs)) (x : Fw ad c' (upd B a (.lst vs)) H B' H') : Fw ad c' B H (fun b => if b = a then none else B' b) H' where
  bb := fun b o q => by
    have hb : b ≠ a := fun z => by subst z; rw [n] at q; cases q
    show (if b = a then none else B' b) = some o
    rw [if_neg hb]
    exact x.bb b o (by rw [upd_ne hb]; exact q)
  bh := fun b o q => by
    have q' : (if b = a then none else B' b) = some o := q
    by_cases hb : b = a
    · rw [if_pos hb] at q'; cases q'
    · rw [if_neg hb] at q'; exact x.bh b o q'
  keep := x.keep
  cell := x.cell
  fresh := fun b o q m => by
    have q' : (if b = a then none else B' b) = some o := q
    by_cases hb : b = a
    · rw [if_pos hb] at q'; cases q'
    · rw [if_neg hb] at q'
      exact x.fresh b o q' (by rw [upd_ne hb]; exact m)
/-! ### what is walked -/
def Walk (K : PySem.W.Frag) (J : It) (B : Hp) (xs : List D) : Prop := ∀ (B2 H2 : Hp), Same B B2 → Same B2 H2 → J.stop xs.length H2 ∧ ∀ i d, xs[i]? = some d → J.go i H2 ∧ ∀ x H3, J.yld i H2 x H3 → ∃ B3, Grow B2 H2 B3 H3 ∧ Dp K B3 x d
theorem Walk.mono {J : It} {B B' : Hp} {xs : List D} (h : Walk K J B xs) (e : Same B B') : Walk K J B' xs := fun B2 H2 a b => h B2 H2 (e.trans a) b
abbrev SI := Rho → Dr → Option (List D × Dr)
def ImpI (K : PySem.W.Frag) (wi : TI) (f : SI) : Prop := ∀ (ad : Option Addr) (B : Hp) (σ : L2.St) (H : Hp) (ρ : Rho) (c : Dr) (xs : List D) (c' : Dr) (R : It → Hp → Prop), Rl K ad B σ H ρ c → f ρ c = some (xs, c') →
  (∀ J B' H', Fw ad c' B H B' H' → Walk K J B' xs → R J H') → wi σ H R
def sItL (a : SE) : SI := fun ρ c => (a ρ c).bind fun p => match p.1 with
  | .list xs => some (xs, p.2)
  | _ => none
def sItT (a : SE) : SI := fun ρ c => (a ρ c).bind fun p => match p.1 with
  | .tuple xs => some (xs, p.2)
  | _ => none
theorem imp_iL {t : TE} {a : SE} (h : ImpE K t a) : ImpI K (iList K t) (sItL a) := fun ad B σ H ρ c xs c' Q R e q => by
  obtain ⟨⟨d, c1⟩, e1, e2⟩ := Option.bind_eq_some_iff.mp e
  refine h ad B σ H ρ c d c1 _ R e1 fun v B' H' x dv => ?_
  cases d with
  | list ds =>
    cases e2
    obtain ⟨a, vs, rfl, s1, s2⟩ := dp_list dv
    refine ⟨a, rfl, ⟨vs, SqL.of (x.bh _ _ s1)⟩, q _ B' H' x fun B2 H2 m1 m2 => ⟨⟨vs, SqL.of (m2 _ _ (m1 _ _ s1)), Nat.le_of_eq (dpAll_len s2)⟩, fun i d hd => ?_⟩⟩
    obtain ⟨v, g1, g2⟩ := dpAll_get s2 hd
    refine ⟨⟨vs, v, SqL.of (m2 _ _ (m1 _ _ s1)), g1⟩, fun y H3 hy => ?_⟩
    obtain ⟨rfl, hy⟩ := hy
    have e3 := (hy vs (SqL.of (m2 _ _ (m1 _ _ s1)))).symm.trans g1
    cases e3
    exact ⟨B2, Grow.refl m2, dp_mono m1 _ _ g2⟩
  | _ => cases e2
theorem imp_iT {t : TE} {a : SE} (h : ImpE K t a) : ImpI K (iTup K t) (sItT a) := fun ad B σ H ρ c xs c' Q R e q => by
  obtain ⟨⟨d, c1⟩, e1, e2⟩ := Option.bind_eq_some_iff.mp e
  refine h ad B σ H ρ c d c1 _ R e1 fun v B' H' x dv => ?_
  cases d with
  | tuple ds =>
    cases e2
    obtain ⟨a, vs, rfl, s1, s2⟩ := dp_tuple dv
    refine ⟨a, rfl, ⟨vs, SqT.of (x.bh _ _ s1)⟩, q _ B' H' x fun B2 H2 m1 m2 => ⟨⟨vs, SqT.of (m2 _ _ (m1 _ _ s1)), Nat.le_of_eq (dpAll_len s2)⟩, fun i d hd => ?_⟩⟩
    obtain ⟨v, g1, g2⟩ := dpAll_get s2 hd
    refine ⟨⟨vs, v, SqT.of (m2 _ _ (m1 _ _ s1)), g1⟩, fun y H3 hy => ?_⟩
    obtain ⟨rfl, hy⟩ := hy
    have e3 := (hy vs (SqT.of (m2 _ _ (m1 _ _ s1)))).symm.trans g1
    cases e3
    exact ⟨B2, Grow.refl m2, dp_mono m1 _ _ g2⟩
  | _ => cases e2
/-- lo, lo + 1, .. -/
def rngL (lo : Int) (n : Nat) : List D := (List.range n).map fun i => .int (lo + (i : Nat))
theorem rngL_get {lo : Int} {n i : Nat} {d : D} (h : (rngL lo n)[i]? = some d) : i < n ∧ d = .int (lo + i) := by
  unfold rngL at h
  rw [List.getElem?_map] at h
  obtain ⟨k, e1, e2⟩ := Option.map_eq_some_iff.mp h
  obtain ⟨e3, e4⟩ := List.getElem?_eq_some_iff.mp e1
  rw [List.length_range] at e3
  rw [List.getElem_range] at e4
  subst e4
  exact ⟨e3, e2.symm⟩
theorem rngL_len (lo : Int) (n : Nat) : (rngL lo n).length = n := by unfold rngL; rw [List.length_map, List.length_range]
theorem walk_rng (B : Hp) (lo : Int) (n : Nat) : Walk K (Itr lo n) B (rngL lo n) := fun B2 H2 m1 m2 => ⟨Nat.le_of_eq (rngL_len lo n).symm, fun i d hd => by
  obtain ⟨h1, rfl⟩ := rngL_get hd
  refine ⟨h1, fun y H3 hy => ?_⟩
  obtain ⟨rfl, rfl⟩ := hy
  exact ⟨B2, Grow.refl m2, .int _⟩⟩
def okR (i : Int) : Bool := decide (i.natAbs ≤ 1000000)
theorem okR_to {i : Int} (h : okR i = true) : -(2 ^ 62) ≤ i ∧ i < 2 ^ 62 := by
  have := of_decide_eq_true h
  constructor <;> omega
theorem imp_iR1 {t : TA} {a : SA} (h : ImpA K t a) : ImpI K (iRng1 t) (fun ρ c => (a ρ c).bind fun p => match p.1 with
  | [.int j] => if okR j = true then some (rngL 0 j.toNat, p.2) else none
  | _ => none) := fun ad B σ H ρ c xs c' Q R e q => by
  obtain ⟨⟨ds, c1⟩, e1, e2⟩ := Option.bind_eq_some_iff.mp e
  refine h ad B σ H ρ c ds c1 _ R e1 fun vs B' H' x dv => ?_
  split at e2
  · rename_i p j e3
    have e3' : ds = [.int j] := e3
    subst e3'
    split at e2
    · rename_i hj
      cases e2
      cases dv with
      | cons d1 r1 =>
        cases r1
        obtain ⟨h1, h2⟩ := okR_to hj
        exact ⟨j, by rw [dp_int d1], h1, h2, q _ B' H' x (walk_rng B' 0 _)⟩
    · cases e2
  · cases e2
def sR1 (a : SA) : SI := fun ρ c => (a ρ c).bind fun p => match p.1 with
  | [.int j] => if okR j = true then some (rngL 0 j.toNat, p.2) else none
  | _ => none
def sR2 (a : SA) : SI := fun ρ c => (a ρ c).bind fun p => match p.1 with
  | [.int i, .int j] => if okR i = true ∧ okR j = true then some (rngL i (j - i).toNat, p.2) else none
  | _ => none
theorem imp_r1 {t : TA} {a : SA} (h : ImpA K t a) : ImpI K (iRng1 t) (sR1 a) := imp_iR1 h
theorem imp_r2 {t : TA} {a : SA} (h : ImpA K t a) : ImpI K (iRng2 t) (sR2 a) := fun ad B σ H ρ c xs c' Q R e q => by
  obtain ⟨⟨ds, c1⟩, e1, e2⟩ := Option.bind_eq_some_iff.mp e
  refine h ad B σ H ρ c ds c1 _ R e1 fun vs B' H' x dv => ?_
  split at e2
  · rename_i p i j e3
    have e3' : ds = [.int i, .int j] := e3
    subst e3'
    split at e2
    · rename_i hj
      cases e2
      cases dv with
      | cons d1 r1 =>
        cases r1 with
        | cons d2 r2 =>
          cases r2
          obtain ⟨h1, h2⟩ := okR_to hj.1
          obtain ⟨h3, h4⟩ := okR_to hj.2
          exact ⟨i, j, by rw [dp_int d1, dp_int d2], ⟨h1, h2, h3, h4⟩, q _ B' H' x (walk_rng B' i _)⟩
    · cases e2
  · cases e2

/-! ### for -/
def forS (g : D → Rho → Option Rho) (body : SS) : List D → SS
  | [] => fun ρ c => some (.nx, ρ, c)
  | x :: xs => fun ρ c => (g x ρ).bind fun ρ1 => (body ρ1 c).bind fun r => match r with
    | (.nx, ρ2, c2) => forS g body xs ρ2 c2
    | (.ct, ρ2, c2) => forS g body xs ρ2 c2
    | (.bk, ρ2, c2) => some (.nx, ρ2, c2)
    | (.rt d, ρ2, c2) => some (.rt d, ρ2, c2)
def sFor (f : SI) (g : D → Rho → Option Rho) (body : SS) : SS := fun ρ c => (f ρ c).bind fun p => forS g body p.1 ρ p.2
/-- the loop, by what its iterator does at each turn -/
theorem for_core {J : It} {tg : TG} {tb : TS} {g : D → Rho → Option Rho} {body : SS} (hg : ImpG K tg g) (hb : ImpS K tb body) {ad : Option Addr} {B1 : Hp} {σ : L2.St} {H1 : Hp} {ρ : Rho} {c1 : Dr} {xs : List D} {r : Fl × Rho × Dr} {D : Ends} (R1 : Rl K ad B1 σ H1 ρ c1)
    (wk : ∀ (B' : Hp) (σ' : L2.St) (H' : Hp) (ρ' : Rho), FwS ad B1 σ H1 ρ B' σ' H' ρ' → Same B' H' → J.stop xs.length H' ∧ ∀ (i : Nat) (d : PyData), xs[i]? = some d → J.go i H' ∧ ∀ x H3, J.yld i H' x H3 → ∃ B3, Grow B' H' B3 H3 ∧ Dp K B3 x d)
    (e2 : forS g body xs ρ c1 = some r) (q1 : Post K D ad B1 σ H1 ρ r) : ∃ W : Nat → Nat → L2.St → Hp → Prop, (∃ m, W 0 m σ H1) ∧ ∀ i m σ H, W i m σ H →
  (J.stop i H ∧ D.nx σ H) ∨ (J.go i H ∧ ∃ N : L2.St → Hp → Prop, (∀ σ' H', N σ' H' → ∃ m', m' < m ∧ W (i + 1) m' σ' H') ∧ ∀ x H', J.yld i H x H' → tg x σ H' fun σ2 H2 => tb { D with nx := N, ct := N, bk := D.nx } σ2 H2) := by
  refine ⟨fun i m σ' H' => m = xs.length - i ∧ i ≤ xs.length ∧ ∃ B' ρ' c', Rl K ad B' σ' H' ρ' c' ∧ FwS ad B1 σ H1 ρ B' σ' H' ρ' ∧ forS g body (xs.drop i) ρ' c' = some r,
    ⟨xs.length, by rw [Nat.sub_zero], Nat.zero_le _, B1, ρ, c1, R1, FwS.refl R1, by rw [List.drop_zero]; exact e2⟩, fun i m σ' H' hW => ?_⟩
  obtain ⟨rfl, hi, B', ρ', c', R', y, e'⟩ := hW
  obtain ⟨w1, w2⟩ := wk B' σ' H' ρ' y R'.sub
  by_cases hlt : i < xs.length
  · have hx : xs[i]? = some xs[i] := List.getElem?_eq_getElem hlt
    obtain ⟨go, yl⟩ := w2 i _ hx
    rw [List.drop_eq_getElem_cons hlt] at e'
    obtain ⟨ρ2, e3, e4⟩ := Option.bind_eq_some_iff.mp e'
    obtain ⟨r3, e5, e6⟩ := Option.bind_eq_some_iff.mp e4
    refine .inr ⟨go, fun σ2 H2 => xs.length - (i + 1) = xs.length - (i + 1) ∧ i + 1 ≤ xs.length ∧ ∃ B2 ρ2 c2, Rl K ad B2 σ2 H2 ρ2 c2 ∧ FwS ad B1 σ H1 ρ B2 σ2 H2 ρ2 ∧ forS g body (xs.drop (i + 1)) ρ2 c2 = some r, fun σ2 H2 h2 => ⟨xs.length - (i + 1), by omega, h2⟩, fun v H3 hv => ?_⟩
    obtain ⟨B3, gr, dv⟩ := yl v H3 hv
    have x3 : Fw ad c' B' H' B3 H3 := gr.fw R'.cell
    have R3 := R'.fw x3
    refine hg ad B3 σ' H3 ρ' c' v _ ρ2 _ R3 dv e3 fun σ4 R4 y4 => ?_
    have y04 : FwS ad B1 σ H1 ρ B3 σ4 H3 ρ2 := FwS.trans R1 R3 (FwS.trans R1 R' y (FwS.ofFw R' x3)) y4
    refine hb ad B3 σ4 H3 ρ2 c' r3 _ R4 e5 ?_
    obtain ⟨f3, ρ5, c5⟩ := r3
    cases f3 with
    | nx => exact fun B5 σ5 H5 R5 y5 => ⟨rfl, hlt, B5, ρ5, c5, R5, FwS.trans R1 R4 y04 y5, e6⟩
    | ct => exact fun B5 σ5 H5 R5 y5 => ⟨rfl, hlt, B5, ρ5, c5, R5, FwS.trans R1 R4 y04 y5, e6⟩
    | bk =>
      cases e6
      exact fun B5 σ5 H5 R5 y5 => q1 B5 σ5 H5 R5 (FwS.trans R1 R4 y04 y5)
    | rt d =>
      cases e6
      exact fun w B5 σ5 H5 R5 y5 dw => q1 w B5 σ5 H5 R5 (FwS.trans R1 R4 y04 y5) dw
  · have ei : i = xs.length := by omega
    subst ei
    rw [List.drop_length] at e'
    cases e'
    exact .inl ⟨w1, q1 B' σ' H' R' y⟩
theorem imp_for {wi : TI} {tg : TG} {tb : TS} {f : SI} {g : D → Rho → Option Rho} {body : SS} (hf : ImpI K wi f) (hg : ImpG K tg g) (hb : ImpS K tb body) : ImpS K (tFor wi tg tb) (sFor f g body) := fun ad B σ H ρ c r D R e q => by
  obtain ⟨⟨xs, c1⟩, e1, e2⟩ := Option.bind_eq_some_iff.mp e
  refine hf ad B σ H ρ c xs c1 _ R e1 fun J B1 H1 x wk => ?_
  have R1 := R.fw x
  exact for_core hg hb R1 (fun B' σ' H' ρ' y s => wk B' H' y.bb s) e2 (Post.trans R R1 (FwS.ofFw R x) q)
/-! ### while, with fuel -/
def whileS (t : SB) (body : SS) : Nat → SS
  | 0 => fun _ _ => none
  | n + 1 => fun ρ c => (t ρ c).bind fun p => if p.1 = true then (body ρ p.2).bind fun r => match r with
    | (.nx, ρ2, c2) => whileS t body n ρ2 c2
    | (.ct, ρ2, c2) => whileS t body n ρ2 c2
    | (.bk, ρ2, c2) => some (.nx, ρ2, c2)
    | (.rt d, ρ2, c2) => some (.rt d, ρ2, c2)
    else some (.nx, ρ, p.2)
theorem imp_while {tt : TT} {tb : TS} {t : SB} {body : SS} (n : Nat) (ht : ImpT K tt t) (hb : ImpS K tb body) : ImpS K (tWhile tt tb) (whileS t body n) := fun ad B σ H ρ c r D R e q => by
  refine ⟨fun m σ' H' => ∃ B' ρ' c', Rl K ad B' σ' H' ρ' c' ∧ FwS ad B σ H ρ B' σ' H' ρ' ∧ whileS t body m ρ' c' = some r, ⟨n, B, ρ, c, R, FwS.refl R, e⟩, fun m σ' H' hW => ?_⟩
  obtain ⟨B', ρ', c', R', y, e'⟩ := hW
  cases m with
  | zero => cases e'
  | succ m =>
    obtain ⟨⟨b, c1⟩, e1, e2⟩ := Option.bind_eq_some_iff.mp e'
    refine ht ad B' σ' H' ρ' c' b c1 _ R' e1 fun B1 H1 x => ?_
    have R1 := R'.fw x
    have y1 := FwS.trans R R' y (FwS.ofFw R' x)
    cases b with
    | true =>
      obtain ⟨r3, e5, e6⟩ := Option.bind_eq_some_iff.mp e2
      rw [if_pos rfl]
      refine ⟨fun σ2 H2 => ∃ B' ρ' c', Rl K ad B' σ2 H2 ρ' c' ∧ FwS ad B σ H ρ B' σ2 H2 ρ' ∧ whileS t body m ρ' c' = some r, fun σ2 H2 h2 => ⟨m, Nat.lt_succ_self m, h2⟩, ?_⟩
      refine hb ad B1 σ' H1 ρ' c1 r3 _ R1 e5 ?_
      obtain ⟨f3, ρ5, c5⟩ := r3
      cases f3 with
      | nx => exact fun B5 σ5 H5 R5 y5 => ⟨B5, ρ5, c5, R5, FwS.trans R R1 y1 y5, e6⟩
      | ct => exact fun B5 σ5 H5 R5 y5 => ⟨B5, ρ5, c5, R5, FwS.trans R R1 y1 y5, e6⟩
      | bk =>
        cases e6
        exact fun B5 σ5 H5 R5 y5 => q B5 σ5 H5 R5 (FwS.trans R R1 y1 y5)
      | rt d =>
        cases e6
        exact fun w B5 σ5 H5 R5 y5 dw => q w B5 σ5 H5 R5 (FwS.trans R R1 y1 y5) dw
    | false =>
      rw [if_neg Bool.false_ne_true]
      have e2' : some (Fl.nx, ρ', c1) = some r := e2
      cases e2'
      exact q B1 σ' H1 R1 y1
end
end DL
/-! DLe: comprehensions; calls; what a def promises. -/
namespace DL
open PySem PySem.Spec L2
section
variable {K : PySem.W.Frag}
/-! ### comprehensions -/
/-- a target that stores in these slots alone -/
def OnlyG (t : TG) (vs : List Nat) : Prop := ∀ v σ H Q, t v σ H Q → t v σ H fun σ' H' => Q σ' H' ∧ wipe σ' vs = wipe σ vs
def MonoG (t : TG) : Prop := ∀ v σ H Q Q', (∀ σ' H', Q σ' H' → Q' σ' H') → t v σ H Q → t v σ H Q'
def MonoGs (t : TGs) : Prop := ∀ v σ H Q Q', (∀ σ' H', Q σ' H' → Q' σ' H') → t v σ H Q → t v σ H Q'
def OnlyGs (t : TGs) (vs : List Nat) : Prop := ∀ ws σ H Q, t ws σ H Q → t ws σ H fun σ' H' => Q σ' H' ∧ wipe σ' vs = wipe σ vs
theorem wipe_set {σ : L2.St} {i : Nat} {o : Option V} : ∀ {vs : List Nat}, i ∈ vs → wipe (σ.set i o) vs = wipe σ vs
  | [], h => by cases h
  | v :: vs, h => by
    show (wipe (σ.set i o) vs).set v none = (wipe σ vs).set v none
    have comm : ∀ ws : List Nat, i ∉ ws → wipe (σ.set i o) ws = (wipe σ ws).set i o := by
      intro ws
      induction ws with
      | nil => intro _; rfl
      | cons u us ih =>
        intro hn
        show (wipe (σ.set i o) us).set u none = ((wipe σ us).set u none).set i o
        rw [ih (fun z => hn (List.mem_cons_of_mem _ z)), List.set_comm _ _ (fun z => hn (by rw [z]; exact List.mem_cons_self))]
    by_cases hm : i ∈ vs
    · rw [wipe_set hm]
    · have hi : i = v := by
        rcases List.mem_cons.mp h with z | z
        · exact z
        · exact absurd z hm
      rw [comm vs hm, hi, List.set_set]
theorem only_N {i : Nat} {vs : List Nat} (h : i ∈ vs) : OnlyG (gName i) vs := fun v σ H Q q => ⟨q, wipe_set h⟩
theorem only_nil {vs : List Nat} : OnlyGs gNil vs := fun ws σ H Q q => ⟨q.1, q.2, rfl⟩
theorem only_cons {t : TG} {u : TGs} {vs : List Nat} (h1 : OnlyG t vs) (h2 : OnlyGs u vs) (mono : MonoG t) (mono2 : MonoGs u) : OnlyGs (gCons t u) vs := fun ws σ H Q q => by
  obtain ⟨v, r, e, q⟩ := q
  refine ⟨v, r, e, ?_⟩
  refine mono v σ H _ _ (fun σ' H' z => ?_) (h1 v σ H _ q)
  exact mono2 r σ' H' _ _ (fun σ2 H2 y => ⟨y.1, y.2.trans z.2⟩) (h2 r σ' H' Q z.1)
theorem mono_N {i : Nat} : MonoG (gName i) := fun v σ H Q Q' h q => h _ _ q
theorem mono_nil : MonoGs gNil := fun v σ H Q Q' h q => ⟨q.1, h _ _ q.2⟩
theorem mono_cons {t : TG} {u : TGs} (m1 : MonoG t) (m2 : MonoGs u) : MonoGs (gCons t u) := fun v σ H Q Q' h q => by
  obtain ⟨x, r, e, q⟩ := q
  exact ⟨x, r, e, m1 _ _ _ _ _ (fun σ' H' z => m2 _ _ _ _ _ h z) q⟩
theorem mono_tup {n : Nat} {u : TGs} (m2 : MonoGs u) : MonoG (gTup K n u) := fun v σ H Q Q' h q => by
  obtain ⟨a, xs, e, e2, e3, q⟩ := q
  exact ⟨a, xs, e, e2, e3, m2 _ _ _ _ _ h q⟩
theorem only_tup {n : Nat} {u : TGs} {vs : List Nat} (h : OnlyGs u vs) : OnlyG (gTup K n u) vs := fun v σ H Q q => by
  obtain ⟨a, xs, e, e2, e3, q⟩ := q
  exact ⟨a, xs, e, e2, e3, h xs σ H Q q⟩
/-- slots forgotten, as a comprehension does -/
def wipeR (ρ : Rho) : List Nat → Rho
  | [] => ρ
  | v :: vs => (wipeR ρ vs).set v .un
theorem Rl.setUn {ad : Option Addr} {B H : Hp} {σ : L2.St} {ρ : Rho} {c : Dr} (r : Rl K ad B σ H ρ c) (i : Nat) (o : Option V) : Rl K ad B (σ.set i o) H (ρ.set i .un) c := by
  have p : ∀ {j : Nat} {s : Sl}, (ρ.set i .un)[j]? = some s → s = .un ∨ (ρ[j]? = some s ∧ (σ.set i o)[j]? = σ[j]?) := fun {j s} e => by
    by_cases hj : j = i
    · subst hj
      have hl : j < ρ.length := by
        have := (List.getElem?_eq_some_iff.mp e).1
        rwa [List.length_set] at this
      rw [List.getElem?_set_self hl] at e
      cases e; exact .inl rfl
    · rw [List.getElem?_set_ne (Ne.symm hj)] at e
      exact .inr ⟨e, List.getElem?_set_ne (Ne.symm hj)⟩
  refine ⟨r.sub, r.cell, r.cfree, by rw [List.length_set, List.length_set]; exact r.len, fun j s e => ?_, fun j k s t a hjk e1 e2 o1 o2 g => ?_⟩
  · rcases p e with z | ⟨z, z2⟩
    · subst z; trivial
    · rw [z2]; exact r.slot j s z
  · rcases p e1 with z | ⟨z, z2⟩
    · subst z; cases o1
    · rcases p e2 with z' | ⟨z', z2'⟩
      · subst z'; cases o2
      · rw [z2] at g
        rw [z2']
        exact r.sep j k s t a hjk z z' o1 o2 g
theorem Rl.wiped {ad : Option Addr} {B H : Hp} {σ : L2.St} {ρ : Rho} {c : Dr} (r : Rl K ad B σ H ρ c) : ∀ vs : List Nat, Rl K ad B (wipe σ vs) H (wipeR ρ vs) c
  | [] => r
  | v :: vs => (r.wiped vs).setUn v none
def lcS (g : D → Rho → Option Rho) (t : SB) (e : SE) (ρ0 : Rho) : List D → Dr → Option (List D × Dr)
  | [], c => some ([], c)
  | x :: xs, c => (g x ρ0).bind fun ρ1 => (t ρ1 c).bind fun p => if p.1 = true then (e ρ1 p.2).bind fun q => (lcS g t e ρ0 xs q.2).bind fun r => some (q.1 :: r.1, r.2) else lcS g t e ρ0 xs p.2
def sLc (f : SI) (g : D → Rho → Option Rho) (t : SB) (e : SE) (vs : List Nat) : SL := fun ρ c => (f ρ c).bind fun p => if few p.1.length = true then lcS g t e (wipeR ρ vs) p.1 p.2 else none
def sYes : SB := fun _ c => some (true, c)
theorem imp_yes : ImpT K tYes sYes := fun ad B σ H ρ c b c' Q R e q => by
  cases e
  exact q B H R.fwRefl
def delH (H : Hp) (a : Addr) : Hp := fun b => if b = a then none else H b
theorem delH_self {H : Hp} {a : Addr} : delH H a a = none := if_pos rfl
theorem delH_ne {H : Hp} {a b : Addr} (h : b ≠ a) : delH H a b = H b := if_neg h
theorem upd_delH {H : Hp} {a : Addr} {o : HO} (h : H a = some o) : upd (delH H a) a o = H := by
  funext b
  by_cases e : b = a
  · subst e; rw [upd_same, h]
  · rw [upd_ne e, delH_ne e]
theorem delH_upd {H : Hp} {a : Addr} {o : HO} (h : H a = none) : delH (upd H a o) a = H := by
  funext b
  by_cases e : b = a
  · subst e; rw [delH_self, h]
  · rw [delH_ne e, upd_ne e]
theorem same_delH {H : Hp} {a : Addr} : Same (delH H a) H := fun b o q => by
  by_cases e : b = a
  · subst e; rw [delH_self] at q; cases q
  · rw [delH_ne e] at q; exact q
theorem Rl.up {ad : Option Addr} {B H H' : Hp} {σ : L2.St} {ρ : Rho} {c : Dr} (r : Rl K ad B σ H ρ c) (s : Same H H') : Rl K ad B σ H' ρ c := by
  refine ⟨r.sub.trans s, fun a e => s a _ (r.cell a e), r.cfree, r.len, fun i t e => ?_, r.sep⟩
  have q := r.slot i t e
  cases t with
  | un => trivial
  | im d => exact q
  | ol xs => obtain ⟨a, vs, e1, e2, e3⟩ := q; exact ⟨a, vs, e1, s a _ e2, e3⟩
  | od xs => obtain ⟨a, vs, e1, e2, e3⟩ := q; exact ⟨a, vs, e1, s a _ e2, e3⟩
  | fd xs => obtain ⟨a, w, vs, e1, e2, e3⟩ := q; exact ⟨a, w, vs, e1, s a _ e2, e3⟩
  | op v => exact q
  | dr => exact q
theorem Fw.del {ad : Option Addr} {c' : Dr} {B H B' H' : Hp} {a : Addr} {o : HO} (x : Fw ad c' B H B' H') (n : B a = none) (h : H a = some o) (na : ad ≠ some a) : Fw ad c' B (delH H a) B' (delH H' a) where
  bb := x.bb
  bh := fun b u q => by
    have hb : b ≠ a := fun z => by
      subst z
      have := x.fresh b u q n
      rw [h] at this; cases this
    rw [delH_ne hb]; exact x.bh b u q
  keep := fun b u m q => by
    have hb : b ≠ a := fun z => by subst z; rw [delH_self] at q; cases q
    rw [delH_ne hb] at q ⊢; exact x.keep b u m q
  cell := fun b e => by
    have hb : b ≠ a := fun z => by subst z; exact na e
    rw [delH_ne hb]; exact x.cell b e
  fresh := fun b u q m => by
    have hb : b ≠ a := fun z => by
      subst z
      have := x.fresh b u q n
      rw [h] at this; cases this
    rw [delH_ne hb]; exact x.fresh b u q m
theorem imp_lc {wi : TI} {tg : TG} {tt : TT} {te : TE} {f : SI} {g : D → Rho → Option Rho} {t : SB} {e : SE} {vs : List Nat} (hf : ImpI K wi f) (hg : ImpG K tg g) (ho : OnlyG tg vs) (mn : MonoG tg) (ht : ImpT K tt t) (he : ImpE K te e) :
    ImpL K (tLc wi tg tt te vs) (sLc f g t e vs) := fun ad B σ H ρ c ds c' Q R h q => by
  obtain ⟨⟨xs, c1⟩, e1, e2⟩ := Option.bind_eq_some_iff.mp h
  have e2 : (if few xs.length = true then lcS g t e (wipeR ρ vs) xs c1 else none) = some (ds, c') := e2
  by_cases hz : few xs.length = true
  · rw [if_pos hz] at e2
    have hz' := few_ok hz
    refine hf ad B σ H ρ c xs c1 _ R e1 fun J B1 H1 x wk => ?_
    intro Dl hD
    have R1 := R.fw x
    have nB1 : B1 Dl = none := R1.sub.free hD
    have nad : ad ≠ some Dl := fun z => by rw [R1.cell Dl z] at hD; cases hD
    refine ⟨fun i m H' => m = xs.length - i ∧ i ≤ xs.length ∧ ∃ (B' : Hp) (cc : Dr) (acc : List V) (done rest : List D), H' Dl = some (.lst acc) ∧ DpAll K B' acc done ∧ acc.length ≤ i ∧ Fw ad cc B1 H1 B' (delH H' Dl) ∧ lcS g t e (wipeR ρ vs) (xs.drop i) cc = some (rest, c') ∧ ds = done ++ rest,
      ⟨xs.length, by rw [Nat.sub_zero], Nat.zero_le _, B1, c1, [], [], ds, upd_same, .nil, Nat.zero_le _, by rw [delH_upd hD]; exact R1.fwRefl, by rw [List.drop_zero]; exact e2, rfl⟩, fun i m H' hW => ?_⟩
    obtain ⟨rfl, hi, B', cc, acc, done, rest, hDl, dacc, hacc, y, e', ed⟩ := hW
    have nB' : B' Dl = none := by
      cases z : B' Dl with
      | none => rfl
      | some u =>
        have := y.bh Dl u z
        rw [delH_self] at this; cases this
    have sB' : Same B' H' := y.bh.trans same_delH
    obtain ⟨w1, w2⟩ := wk B' H' y.bb sB'
    by_cases hlt : i < xs.length
    · obtain ⟨go, yl⟩ := w2 i _ (List.getElem?_eq_getElem hlt)
      rw [List.drop_eq_getElem_cons hlt] at e'
      obtain ⟨ρ2, e3, e4⟩ := Option.bind_eq_some_iff.mp e'
      obtain ⟨⟨b, c3⟩, e5, e6⟩ := Option.bind_eq_some_iff.mp e4
      refine .inr ⟨go, fun H2 => xs.length - (i + 1) = xs.length - (i + 1) ∧ i + 1 ≤ xs.length ∧ ∃ (B' : Hp) (cc : Dr) (acc : List V) (done rest : List D), H2 Dl = some (.lst acc) ∧ DpAll K B' acc done ∧ acc.length ≤ i + 1 ∧ Fw ad cc B1 H1 B' (delH H2 Dl) ∧ lcS g t e (wipeR ρ vs) (xs.drop (i + 1)) cc = some (rest, c') ∧ ds = done ++ rest, fun H2 h2 => ⟨xs.length - (i + 1), by omega, h2⟩, fun v H3 hv => ?_⟩
      obtain ⟨B3, gr, dv⟩ := yl v H3 hv
      have hDl3 : H3 Dl = some (.lst acc) := gr.hh Dl _ hDl
      have cell' : ∀ a, ad = some a → H' a = some (.lst [.int cc.1, .int cc.2]) := fun a z => same_delH a _ (y.cell a z)
      have x3 : Fw ad cc B' H' B3 H3 := gr.fw cell'
      have R' : Rl K ad B' (wipe σ vs) H' (wipeR ρ vs) cc := ((R1.fw y).up same_delH).wiped vs
      have R3 := R'.fw x3
      have y3 : Fw ad cc B1 H1 B3 (delH H3 Dl) := R1.trans y (x3.del nB' hDl nad)
      have on := ho v (wipe σ vs) H3 _ (hg ad B3 (wipe σ vs) H3 (wipeR ρ vs) cc v _ ρ2 (fun σ4 H4 => H4 = H3 ∧ Rl K ad B3 σ4 H3 ρ2 cc) R3 dv e3 fun σ4 R4 _ => ⟨rfl, R4⟩)
      have wmono : ∀ σ4 H4, ((H4 = H3 ∧ Rl K ad B3 σ4 H3 ρ2 cc) ∧ wipe σ4 vs = wipe (wipe σ vs) vs) → (wipe σ4 vs = wipe σ vs ∧ tt σ4 H4 fun b H5 => if b = true then te σ4 H5 fun y H6 => ∃ acc', H6 Dl = some (.lst acc') ∧ acc'.length < sizeLine ∧
          (xs.length - (i + 1) = xs.length - (i + 1) ∧ i + 1 ≤ xs.length ∧ ∃ (B' : Hp) (cc : Dr) (acc : List V) (done rest : List D), upd H6 Dl (.lst (acc' ++ [y])) Dl = some (.lst acc) ∧ DpAll K B' acc done ∧ acc.length ≤ i + 1 ∧ Fw ad cc B1 H1 B' (delH (upd H6 Dl (.lst (acc' ++ [y]))) Dl) ∧ lcS g t e (wipeR ρ vs) (xs.drop (i + 1)) cc = some (rest, c') ∧ ds = done ++ rest)
          else (xs.length - (i + 1) = xs.length - (i + 1) ∧ i + 1 ≤ xs.length ∧ ∃ (B' : Hp) (cc : Dr) (acc : List V) (done rest : List D), H5 Dl = some (.lst acc) ∧ DpAll K B' acc done ∧ acc.length ≤ i + 1 ∧ Fw ad cc B1 H1 B' (delH H5 Dl) ∧ lcS g t e (wipeR ρ vs) (xs.drop (i + 1)) cc = some (rest, c') ∧ ds = done ++ rest)) := by
        rintro σ4 H4 ⟨⟨rfl, R4⟩, ew⟩
        have idem : wipe (wipe σ vs) vs = wipe σ vs := by
          have key : ∀ (us : List Nat) (τ : L2.St), (∀ u ∈ us, u ∈ vs) → wipe (wipe σ vs) us = wipe σ vs := by
            intro us
            induction us with
            | nil => intro τ _; rfl
            | cons u us ih =>
              intro τ hs
              show (wipe (wipe σ vs) us).set u none = wipe σ vs
              rw [ih τ fun w hw => hs w (List.mem_cons_of_mem _ hw)]
              have hu : u ∈ vs := hs u List.mem_cons_self
              have : ∀ ws : List Nat, u ∈ ws → (wipe σ ws).set u none = wipe σ ws := by
                intro ws
                induction ws with
                | nil => intro h; cases h
                | cons w ws ih2 =>
                  intro h
                  show ((wipe σ ws).set w none).set u none = (wipe σ ws).set w none
                  by_cases e : u = w
                  · subst e; rw [List.set_set]
                  · have hm : u ∈ ws := by
                      rcases List.mem_cons.mp h with z | z
                      · exact absurd z e
                      · exact z
                    rw [List.set_comm _ _ (Ne.symm e), ih2 hm]
              exact this vs hu
          exact key vs σ fun u h => h
        refine ⟨ew.trans idem, ?_⟩
        refine ht ad B3 σ4 H4 ρ2 cc b c3 _ R4 e5 fun B5 H5 x5 => ?_
        have nB3 : B3 Dl = none := by
          cases z : B3 Dl with
          | none => rfl
          | some u =>
            have := gr.fresh Dl u z nB'
            rw [hDl] at this; cases this
        have R5 := R4.fw x5
        have hDl5 : H5 Dl = some (.lst acc) := x5.keep Dl _ nad hDl3
        have y5 : Fw ad c3 B1 H1 B5 (delH H5 Dl) := R1.trans y3 (x5.del nB3 hDl3 nad)
        have nB5 : B5 Dl = none := by
          cases z : B5 Dl with
          | none => rfl
          | some u =>
            have := x5.fresh Dl u z nB3
            rw [hDl3] at this; cases this
        cases b with
        | true =>
          have e6' : ((e ρ2 c3).bind fun q => (lcS g t e (wipeR ρ vs) (xs.drop (i + 1)) q.2).bind fun r => some (q.1 :: r.1, r.2)) = some (rest, c') := e6
          rw [if_pos rfl]
          obtain ⟨⟨d7, c7⟩, e7, e8⟩ := Option.bind_eq_some_iff.mp e6'
          obtain ⟨⟨rest', c8⟩, e9, e10⟩ := Option.bind_eq_some_iff.mp e8
          cases e10
          refine he ad B5 σ4 H5 ρ2 c3 d7 c7 _ R5 e7 fun w B6 H6 x6 dw => ?_
          have hDl6 : H6 Dl = some (.lst acc) := x6.keep Dl _ nad hDl5
          have y6 : Fw ad c7 B1 H1 B6 (delH H6 Dl) := R1.trans y5 (x6.del nB5 hDl5 nad)
          have ex : delH (upd H6 Dl (.lst (acc ++ [w]))) Dl = delH H6 Dl := by
            funext b
            by_cases z : b = Dl
            · subst z; rw [delH_self, delH_self]
            · rw [delH_ne z, delH_ne z, upd_ne z]
          refine ⟨acc, hDl6, ?_, rfl, hlt, B6, c7, acc ++ [w], done ++ [d7], rest', upd_same, ?_, ?_, ?_, e9, ?_⟩
          · rw [sizeLine_eq]; omega
          · exact dpAll_snoc (dpAll_mono (gr.bb.trans (x5.bb.trans x6.bb)) _ _ dacc) dw
          · rw [List.length_append]
            show acc.length + 1 ≤ i + 1
            omega
          · rw [ex]; exact y6
          · rw [ed, List.append_assoc]; rfl
        | false =>
          have e6' : lcS g t e (wipeR ρ vs) (xs.drop (i + 1)) c3 = some (rest, c') := e6
          rw [if_neg Bool.false_ne_true]
          exact ⟨rfl, hlt, B5, c3, acc, done, rest, hDl5, dpAll_mono (gr.bb.trans x5.bb) _ _ dacc, by omega, y5, e6', ed⟩
      exact mn _ _ _ _ _ wmono on
    · have ei : i = xs.length := by omega
      subst ei
      rw [List.drop_length] at e'
      cases e'
      refine .inl ⟨w1, ?_⟩
      rw [List.append_nil] at ed
      subst ed
      exact q Dl acc B' H' (delH H' Dl) (R.trans x y) delH_self (upd_delH hDl).symm dacc
  · rw [if_neg hz] at e2; cases e2
end
end DL
/-! DLf: what a def promises; calls. -/
namespace DL
open PySem PySem.Spec L2

/-- a def that reckons on plain data alone -/
def spP (K : PySem.W.Frag) (F : List D → Option D) : Sp := fun vs H Q _ => ∃ (ds : List D) (B : Hp) (d : D), Same B H ∧ DpAll K B vs ds ∧ F ds = some d ∧ ∀ v B' H', Grow B H B' H' → Dp K B' v d → Q v H'
/-- .. that draws: the cell is its first argument -/
def spD (K : PySem.W.Frag) (F : List D → Dr → Option (D × Dr)) : Sp := fun vs H Q _ => ∃ (a : Addr) (vs' : List V) (ds : List D) (B : Hp) (c : Dr) (d : D) (c' : Dr), vs = .ref a :: vs' ∧ Same B H ∧ B a = none ∧ H a = some (.lst [.int c.1, .int c.2]) ∧ DpAll K B vs' ds ∧
  F ds c = some (d, c') ∧ ∀ v B' H', Fw (some a) c' B H B' H' → Dp K B' v d → Q v H'
section
variable {K : PySem.W.Frag}
def sCall (F : List D → Option D) (a : SA) : SE := fun ρ c => (a ρ c).bind fun p => (F p.1).bind fun d => some (d, p.2)
theorem imp_call {F : List D → Option D} {t : TA} {a : SA} (h : ImpA K t a) : ImpE K (tCall (spP K F) [] E0 t) (sCall F a) := fun ad B σ H ρ c d c' Q R e q => by
  obtain ⟨⟨ds, c1⟩, e1, e2⟩ := Option.bind_eq_some_iff.mp e
  obtain ⟨d', e3, e4⟩ := Option.bind_eq_some_iff.mp e2
  cases e4
  refine h ad B σ H ρ c ds _ _ R e1 fun vs B' H' x dv => ?_
  show spP K F (vs ++ []) H' Q E0
  rw [List.append_nil]
  exact ⟨ds, B', d, x.bh, dv, e3, fun v B2 H2 g dd => q v B2 H2 (R.trans x (g.fw x.cell)) dd⟩
def sCallD (F : List D → Dr → Option (D × Dr)) (i : Nat) (a : SA) : SE := fun ρ c => match ρ[i]? with
  | some .dr => (a ρ c).bind fun p => F p.1 p.2
  | _ => none
theorem imp_callD {F : List D → Dr → Option (D × Dr)} {i : Nat} {t : TA} {a : SA} (h : ImpA K t a) : ImpE K (tCall (spD K F) [] E0 (tCons (tVar i) t)) (sCallD F i a) := fun ad B σ H ρ c d c' Q R e q => by
  unfold sCallD at e
  split at e
  · rename_i e0
    obtain ⟨⟨ds, c1⟩, e1, e2⟩ := Option.bind_eq_some_iff.mp e
    obtain ⟨a0, rfl, g1⟩ := R.slot i _ e0
    refine ⟨.ref a0, g1, h _ B σ H ρ c ds _ _ R e1 fun vs B' H' x dv => ?_⟩
    show spD K F ((.ref a0 :: vs) ++ []) H' Q E0
    rw [List.append_nil]
    exact ⟨a0, vs, ds, B', c1, d, c', rfl, x.bh, x.cfree R a0 rfl, x.cell a0 rfl, dv, e2, fun v B2 H2 g dd => q v B2 H2 (R.trans x g) dd⟩
  · cases e
/-- calls with keywords: what comes in the def's order -/
def sCallK (F : List D → Option D) (gV : List D → List D → List D) (a b : SA) : SE := fun ρ c => (a ρ c).bind fun p => (b ρ p.2).bind fun q => (F (gV p.1 q.1)).bind fun d => some (d, q.2)
/-! ### a def's body -/
def endF : Option (Fl × Rho × Dr) → Option (D × Dr)
  | some (.rt d, _, c) => some (d, c)
  | some (.nx, _, c) => some (.none, c)
  | _ => none
def bodyP (m n : Nat) (f : SS) : List D → Option D := fun ds => if ds.length = m then (endF (f (ds.map .im ++ List.replicate n .un) (0, 0))).map (·.1) else none
def bodyD (m n : Nat) (f : SS) : List D → Dr → Option (D × Dr) := fun ds c => if ds.length = m then endF (f (.dr :: (ds.map .im ++ List.replicate n .un)) c) else none
theorem start_get {N : List Str} {vs : List V} {i : Nat} {v : V} (h : vs[i]? = some v) : (L2.start N vs)[i]? = some (some v) := by
  unfold L2.start
  have hi : i < (vs.map some).length := by rw [List.length_map]; exact (List.getElem?_eq_some_iff.mp h).1
  rw [List.getElem?_append_left hi, List.getElem?_map, h]
  rfl
theorem slots_start {B H : Hp} {ad : Option Addr} {n : Nat} {N : List Str} : ∀ {vs : List V} {ds : List D}, DpAll K B vs ds → ∀ (i : Nat) (s : Sl), (ds.map Sl.im ++ List.replicate n Sl.un)[i]? = some s → SlOk K ad B H (L2.start N vs)[i]? s := fun {vs ds} h i s e => by
  by_cases hi : i < ds.length
  · rw [List.getElem?_append_left (by rw [List.length_map]; exact hi), List.getElem?_map, List.getElem?_eq_getElem hi] at e
    cases e
    obtain ⟨v, e1, e2⟩ := dpAll_get h (List.getElem?_eq_getElem hi)
    exact ⟨v, start_get e1, e2⟩
  · rw [List.getElem?_append_right (by rw [List.length_map]; omega)] at e
    have := List.mem_of_getElem? e
    rw [List.mem_replicate] at this
    rw [this.2]
    trivial
theorem noOwn_start {n : Nat} {ds : List D} {i : Nat} {s : Sl} (e : (ds.map Sl.im ++ List.replicate n Sl.un)[i]? = some s) : owns s = false := by
  have hm := List.mem_of_getElem? e
  rcases List.mem_append.mp hm with z | z
  · obtain ⟨d, _, rfl⟩ := List.mem_map.mp z; rfl
  · rw [List.mem_replicate] at z; rw [z.2]; rfl
theorem rl_start {B H : Hp} {N : List Str} {vs : List V} {ds : List D} {n : Nat} (s : Same B H) (h : DpAll K B vs ds) (hl : N.length = vs.length + n) : Rl K none B (L2.start N vs) H (ds.map Sl.im ++ List.replicate n Sl.un) (0, 0) := by
  refine ⟨s, fun a e => (by cases e), fun a e => (by cases e), ?_, slots_start h, fun i j s t a hij e1 e2 o1 => by rw [noOwn_start e1] at o1; cases o1⟩
  unfold L2.start
  rw [List.length_append, List.length_append, List.length_map, List.length_map, List.length_replicate, List.length_replicate, dpAll_len h, hl, dpAll_len h]
  omega
theorem rl_startD {B H : Hp} {N : List Str} {vs : List V} {ds : List D} {n : Nat} {a : Addr} {c : Dr} (s : Same B H) (nB : B a = none) (hc : H a = some (.lst [.int c.1, .int c.2])) (h : DpAll K B vs ds) (hl : N.length = vs.length + 1 + n) :
    Rl K (some a) B (L2.start N (.ref a :: vs)) H (.dr :: (ds.map Sl.im ++ List.replicate n Sl.un)) c := by
  have es : L2.start N (.ref a :: vs) = some (.ref a) :: (vs.map some ++ List.replicate n none) := by
    unfold L2.start
    rw [List.map_cons, List.cons_append, List.length_cons, hl]
    congr 3
    omega
  have es2 : ∀ (i : Nat), (vs.map some ++ List.replicate n (none : Option V))[i]? = (L2.start (List.replicate (vs.length + n) "") vs)[i]? := fun i => by
    unfold L2.start
    rw [List.length_replicate]
    congr 4
    omega
  rw [es]
  refine ⟨s, fun b e => (by cases e; exact hc), fun b e => (by cases e; exact nB), ?_, fun i t e => ?_, fun i j s t b hij e1 e2 o1 o2 => ?_⟩
  · rw [List.length_cons, List.length_cons, List.length_append, List.length_append, List.length_map, List.length_map, List.length_replicate, List.length_replicate, dpAll_len h]
  · cases i with
    | zero =>
      simp at e
      subst e
      exact ⟨a, rfl, rfl⟩
    | succ i =>
      rw [List.getElem?_cons_succ] at e ⊢
      rw [es2]
      exact slots_start h i t e
  · cases i with
    | zero =>
      simp at e1
      subst e1
      cases o1
    | succ i =>
      rw [List.getElem?_cons_succ] at e1
      rw [noOwn_start e1] at o1; cases o1
theorem noOwned {ρ : Rho} {σ : L2.St} (h : ∀ (i : Nat) (s : Sl), ρ[i]? = some s → owns s = false) (a : Addr) : ¬ Owned ρ σ a := fun ⟨i, s, e1, e2, _⟩ => by
  rw [h i s e1] at e2; cases e2
section
variable {P : Program} {w : World} {mg : Str → Option Value} {base : Heap} {x qual : Str} {st : Stmt} {f : Addr} {fd : FuncData} {N ps : List Str} {k n : Nat}
theorem okP {g : SS} (F : Fun K x qual st f fd) (S : FnScope N ps (defScope st)) (hn : N.length = ps.length + n)
    (hb : ∀ (cdv : Value) (A : Around) (outer : List Env) (s : Shared) (H : Hp) (E : XK), Room k (A.deeper (PyProof.Rows.envOfC qual (defScope st) s.heap.objs.size f cdv)) → ∃ t, PSs (cxOf CX0 P w K mg base N qual (defScope st) f cdv A outer s H E).nox (defBody st) t ∧ ImpS K t g) :
    FnOk P w K mg base CX0 (k + 1) f fd ps (spP K (bodyP ps.length n g)) := by
  have hlen : ∀ vs H Q E, spP K (bodyP ps.length n g) vs H Q E → vs.length = ps.length := fun vs H Q E h => by
    obtain ⟨ds, B, d, s, da, e, _⟩ := h
    unfold bodyP at e
    split at e
    · rename_i hl
      rw [dpAll_len da, hl]
    · cases e
  refine F.ok S hlen fun cdv A outer s H vs Q E hr h => ?_
  have hl := hlen vs H Q E h
  obtain ⟨t, ht, im⟩ := hb cdv A outer s H E hr
  obtain ⟨ds, B, d, sB, da, e, q⟩ := h
  refine ⟨t, ht, ?_⟩
  unfold bodyP at e
  split at e
  · rename_i hd
    obtain ⟨⟨d', c'⟩, e1, e2⟩ := Option.map_eq_some_iff.mp e
    cases e2
    have R := rl_start (N := N) sB da (n := n) (by rw [hl]; exact hn)
    have no : ∀ a, ¬ Owned (ds.map Sl.im ++ List.replicate n Sl.un) (L2.start N vs) a := noOwned fun i s e => noOwn_start e
    have gr : ∀ {B' H' : Hp}, Same B B' → Same B' H' → (∀ a o, none ≠ some a → H a = some o → ¬ Owned (ds.map Sl.im ++ List.replicate n Sl.un) (L2.start N vs) a → H' a = some o) → (∀ a o, B' a = some o → B a = none → H a = none ∨ Owned (ds.map Sl.im ++ List.replicate n Sl.un) (L2.start N vs) a) → Grow B H B' H' :=
      fun h1 h2 h3 h4 => ⟨h1, h2, fun a o z => h3 a o (fun z => nomatch z) z (no a), fun a o z1 z2 => (h4 a o z1 z2).elim id fun z => absurd z (no a)⟩
    cases r : g (ds.map Sl.im ++ List.replicate n Sl.un) (0, 0) with
    | none => rw [r] at e1; cases e1
    | some r0 =>
      rw [r] at e1
      refine im none B (L2.start N vs) H _ (0, 0) r0 _ R r ?_
      obtain ⟨fl, ρ', c2⟩ := r0
      cases fl with
      | rt d2 =>
        cases e1
        exact fun v B' σ' H' R' y dv => q v B' H' (gr y.bb R'.sub y.keep y.fresh) dv
      | nx =>
        cases e1
        exact fun B' σ' H' R' y => q _ B' H' (gr y.bb R'.sub y.keep y.fresh) .non
      | bk => cases e1
      | ct => cases e1
  · cases e
theorem okD {g : SS} {y : Str} (F : Fun K x qual st f fd) (S : FnScope N (y :: ps) (defScope st)) (hn : N.length = ps.length + 1 + n)
    (hb : ∀ (cdv : Value) (A : Around) (outer : List Env) (s : Shared) (H : Hp) (E : XK), Room k (A.deeper (PyProof.Rows.envOfC qual (defScope st) s.heap.objs.size f cdv)) → ∃ t, PSs (cxOf CX0 P w K mg base N qual (defScope st) f cdv A outer s H E).nox (defBody st) t ∧ ImpS K t g) :
    FnOk P w K mg base CX0 (k + 1) f fd (y :: ps) (spD K (bodyD ps.length n g)) := by
  have hlen : ∀ vs H Q E, spD K (bodyD ps.length n g) vs H Q E → vs.length = (y :: ps).length := fun vs H Q E h => by
    obtain ⟨a, vs', ds, B, c, d, c', rfl, s, nB, hc, da, e, _⟩ := h
    unfold bodyD at e
    split at e
    · rename_i hl
      rw [List.length_cons, List.length_cons, dpAll_len da, hl]
    · cases e
  refine F.ok S hlen fun cdv A outer s H vs Q E hr h => ?_
  have hl := hlen vs H Q E h
  obtain ⟨t, ht, im⟩ := hb cdv A outer s H E hr
  obtain ⟨a, vs', ds, B, c, d, c', rfl, sB, nB, hc, da, e, q⟩ := h
  refine ⟨t, ht, ?_⟩
  unfold bodyD at e
  split at e
  · rename_i hd
    have R := rl_startD (N := N) sB nB hc da (n := n) (by
      rw [List.length_cons, List.length_cons] at hl
      omega)
    have no : ∀ b, ¬ Owned (.dr :: (ds.map Sl.im ++ List.replicate n Sl.un)) (L2.start N (.ref a :: vs')) b := noOwned fun i s e => by
      cases i with
      | zero => simp at e; subst e; rfl
      | succ i => rw [List.getElem?_cons_succ] at e; exact noOwn_start e
    have gr : ∀ {B' H' : Hp} {c' : Dr}, Same B B' → Same B' H' → (∀ b, some a = some b → H' b = some (.lst [.int c'.1, .int c'.2])) → (∀ b o, some a ≠ some b → H b = some o → ¬ Owned (.dr :: (ds.map Sl.im ++ List.replicate n Sl.un)) (L2.start N (.ref a :: vs')) b → H' b = some o) →
        (∀ b o, B' b = some o → B b = none → H b = none ∨ Owned (.dr :: (ds.map Sl.im ++ List.replicate n Sl.un)) (L2.start N (.ref a :: vs')) b) → Fw (some a) c' B H B' H' :=
      fun h1 h2 hcell h3 h4 => ⟨h1, h2, fun b o z1 z => h3 b o z1 z (no b), hcell, fun b o z1 z2 => (h4 b o z1 z2).elim id fun z => absurd z (no b)⟩
    cases r : g (.dr :: (ds.map Sl.im ++ List.replicate n Sl.un)) c with
    | none => rw [r] at e; cases e
    | some r0 =>
      rw [r] at e
      refine im (some a) B (L2.start N (.ref a :: vs')) H _ c r0 _ R r ?_
      obtain ⟨fl, ρ', c2⟩ := r0
      cases fl with
      | rt d2 =>
        cases e
        exact fun v B' σ' H' R' y dv => q v B' H' (gr y.bb R'.sub R'.cell y.keep y.fresh) dv
      | nx =>
        cases e
        exact fun B' σ' H' R' y => q _ B' H' (gr y.bb R'.sub R'.cell y.keep y.fresh) .non
      | bk => cases e
      | ct => cases e
  · cases e
end
end
end DL
/-! DLt: tuple * int for any small count. -/
namespace DL
open PySem PySem.Spec PyProof.Rows L2
theorem tup_mul_same (l : Addr) (items : Array Value) (n : Nat) (dd : Option Addr) (sl : Array (Option Value)) (x : Int) (u : Tok) (c0 : (decide (x < -(2 ^ 63)) || decide (x ≥ 2 ^ 63)) = false) (c1 : (items.isEmpty || x == 1) = true) :
    Meets (Builtin.«tuple.__mul__» ⟨[.ref l, .int x u], []⟩) (fun _ R s => s.heap.get? l = some { cls := .type "tuple", dict := dd, data := .seq items n, slots := sl } ∧ R (.ok (.ret (Value.ref l))) s) :=
  .of_wp fun prog w A R s h => by
    obtain ⟨hp, g, d, tk, os⟩ := s
    obtain ⟨hl, h⟩ := h
    have f1 := AutoSeq1.idx_int
    wp_walk using wpAny_loadPart' hl
    repeat (first
      | (refine wpAny_ite_false (decide_eq_false (by rw [c0]; exact Bool.false_ne_true)) ?_; wp_walk using wpAny_loadPart' hl)
      | (refine wpAny_ite_true (decide_eq_true (by rw [c1])) ?_; wp_walk using wpAny_loadPart' hl))
    all_goals exact ⟨_, rfl, h⟩
theorem tup_mul_none (l : Addr) (items : Array Value) (n : Nat) (dd : Option Addr) (sl : Array (Option Value)) (x : Int) (u : Tok) (c0 : (decide (x < -(2 ^ 63)) || decide (x ≥ 2 ^ 63)) = false) (c1 : (items.isEmpty || x == 1) = false) (c2 : (decide (x ≤ 0) || items.isEmpty) = true) :
    Meets (Builtin.«tuple.__mul__» ⟨[.ref l, .int x u], []⟩) (fun _ R s => s.heap.get? l = some { cls := .type "tuple", dict := dd, data := .seq items n, slots := sl } ∧
      R (.ok (.ret (Value.ref s.heap.objs.size))) { s with heap := s.heap.push { cls := Value.type "tuple", data := Data.seq #[] }, toks := s.toks }) :=
  .of_wp fun prog w A R s h => by
    obtain ⟨hp, g, d, tk, os⟩ := s
    obtain ⟨hl, h⟩ := h
    have f1 := AutoSeq1.idx_int
    wp_walk using wpAny_loadPart' hl
    repeat (first
      | (refine wpAny_ite_false (decide_eq_false (by rw [c0]; exact Bool.false_ne_true)) ?_; wp_walk using wpAny_loadPart' hl)
      | (refine wpAny_ite_false (decide_eq_false (by rw [c1]; exact Bool.false_ne_true)) ?_; wp_walk using wpAny_loadPart' hl)
      | (refine wpAny_ite_true (decide_eq_true (by rw [c2])) ?_; wp_walk using wpAny_loadPart' hl))
    all_goals exact ⟨_, rfl, h⟩
/-- t * k, k small -/
def rRepA (K : PySem.W.Frag) : R2 := fun x y H Q => ∃ l k xs, x = .ref l ∧ y = .int k ∧ SqT K H l xs ∧ -1000 ≤ k ∧ k ≤ 1000 ∧ xs.length ≤ 1000 ∧ (xs = [] ∨ k = 1 → Q (.ref l) H) ∧ (xs ≠ [] → k ≤ 0 → ∀ p, H p = none → Q (.ref p) (upd H p (.tup []))) ∧
  (xs ≠ [] → 2 ≤ k → ∀ p, H p = none → Q (.ref p) (upd H p (.tup (List.replicate k.toNat xs).flatten)))
section
variable {X : Cx}
theorem op_repA : OpR X (binaryOp .Mult) (rRepA X.K) := by
  intro pins s σ H x y v u Q I rx ry h
  obtain ⟨l, k, xs, rfl, rfl, hT, h1, h2, hz, q1, q2, q3⟩ := h
  by_cases c1 : xs = [] ∨ k = 1
  · cases rx
    obtain ⟨t, rfl⟩ := ry
    obtain ⟨its, r, ⟨⟨cls, dd, data, sl⟩, ho, hc, n, hd⟩, hs⟩ := I.tuple hT
    simp only at hc hd
    subst hc hd
    have c0 : (decide (k < -(2 ^ 63)) || decide (k ≥ 2 ^ 63)) = false := by
      rw [decide_eq_false (by omega), decide_eq_false (by omega)] <;> rfl
    have c1' : (its.toArray.isEmpty || k == 1) = true := by
      rcases c1 with e | e
      · subst e
        cases r
        rfl
      · subst e
        simp
    refine wpAny_binaryOp_repeat_ref (T := "tuple") (U := "int") (by decide) ⟨_, ho, rfl⟩ (fun s' => typeIs_int s' k t) noFill_tuple_mul F.fills_int_mul F.slot_int_rmul repeat_tuple F.slot_int_index.lookup
      (call_meets F.slot_int_rmul (typeIs_int s k t) F.entry_int_rmul (F.args_int_rmul_2 _ _) (int_rmul_tuple k t l its.toArray n dd sl)
        ⟨ho, rfl, ⟨_, ho, rfl⟩, call_meets F.slot_tuple_mul ⟨_, ho, rfl⟩ F.entry_tuple_mul (F.args_tuple_mul_2 _ _) (tup_mul_same l its.toArray n dd sl k t c0 c1') ⟨ho, ?_⟩⟩)
    exact ⟨.ref l, H, I, rfl, q1 c1⟩
  · have hne : xs ≠ [] := fun e => c1 (.inl e)
    have hk : k ≠ 1 := fun e => c1 (.inr e)
    by_cases hk0 : k ≤ 0
    · cases rx
      obtain ⟨t, rfl⟩ := ry
      obtain ⟨its, r, ⟨⟨cls, dd, data, sl⟩, ho, hc, n, hd⟩, hs⟩ := I.tuple hT
      simp only at hc hd
      subst hc hd
      have hi : its.toArray.isEmpty = false := by
        cases r with
        | nil => exact absurd rfl hne
        | cons a b => rfl
      have c0 : (decide (k < -(2 ^ 63)) || decide (k ≥ 2 ^ 63)) = false := by
        rw [decide_eq_false (by omega), decide_eq_false (by omega)] <;> rfl
      have c1' : (its.toArray.isEmpty || k == 1) = false := by
        rw [hi, Bool.false_or]
        exact beq_eq_false_iff_ne.mpr hk
      have c2' : (decide (k ≤ 0) || its.toArray.isEmpty) = true := by
        rw [decide_eq_true hk0]; rfl
      refine wpAny_binaryOp_repeat_ref (T := "tuple") (U := "int") (by decide) ⟨_, ho, rfl⟩ (fun s' => typeIs_int s' k t) noFill_tuple_mul F.fills_int_mul F.slot_int_rmul repeat_tuple F.slot_int_index.lookup
        (call_meets F.slot_int_rmul (typeIs_int s k t) F.entry_int_rmul (F.args_int_rmul_2 _ _) (int_rmul_tuple k t l its.toArray n dd sl)
          ⟨ho, rfl, ⟨_, ho, rfl⟩, call_meets F.slot_tuple_mul ⟨_, ho, rfl⟩ F.entry_tuple_mul (F.args_tuple_mul_2 _ _) (tup_mul_none l its.toArray n dd sl k t c0 c1' c2') ⟨ho, ?_⟩⟩)
      refine ⟨.ref s.heap.objs.size, _, I.laid (t' := s.toks) (o := .tup []) (fun b ob q => Heap.get?_push_of_some _ q) (Nat.le_refl _) ?_, rfl, q2 hne hk0 _ (I.hok.fresh (Nat.le_refl _))⟩
      exact ⟨Nat.zero_le _, [], .nil, IsTup.new _ _⟩
    · exact op_repT pins s σ H _ _ v u Q I rx ry ⟨l, k, xs, rfl, rfl, hT, hne, by omega, h2, hz, q3 hne (by omega)⟩
end
end DL
/-! DLg: operators and built-ins, on data. -/
namespace DL
open PySem PySem.Spec L2
open PyProof.Rows (b2i)
section
variable {K : PySem.W.Frag}
theorem Grow.newTup {B H : Hp} {p : Addr} {vs : List V} {ds : List D} (s : Same B H) (np : H p = none) (h : DpAll K B vs ds) : Grow B H (upd B p (.tup vs)) (upd H p (.tup vs)) ∧ Dp K (upd B p (.tup vs)) (.ref p) (.tuple ds) := ⟨Grow.new s np, dp_newTup (s.free np) h⟩
theorem Grow.newLst {B H : Hp} {p : Addr} {vs : List V} {ds : List D} (s : Same B H) (np : H p = none) (h : DpAll K B vs ds) : Grow B H (upd B p (.lst vs)) (upd H p (.lst vs)) ∧ Dp K (upd B p (.lst vs)) (.ref p) (.list ds) := ⟨Grow.new s np, dp_newLst (s.free np) h⟩
/-! ### + - * / % ** -/
def addD : D → D → Option D
  | .int a, .int b => some (.int (a + b))
  | .int a, .bool b => some (.int (a + b2i b))
  | .list xs, .list ys => if few (xs.length + ys.length) = true then some (.list (xs ++ ys)) else none
  | .tuple xs, .tuple ys => if few (xs.length + ys.length) = true then some (.tuple (xs ++ ys)) else none
  | .str x, .str y => if few (x.length + y.length) = true then some (.str (x ++ y)) else none
  | _, _ => none
abbrev rAddA (K : PySem.W.Frag) : R2 := fun x y H Q => (rI0 fun i j => .int (i + j)) x y H Q ∨ (rCat x y H Q ∨ (rCatA K x y H Q ∨ ((∃ i j, x = .str i ∧ y = .str j ∧ i.length + j.length ≤ sizeLine ∧ Q (.str (i ++ j)) H) ∨ (∃ i k, x = .int i ∧ y = .bl k ∧ Q (.int (i + b2i k)) H))))
theorem op_addA {X : Cx} : OpR X (binaryOp .Add) (rAddA X.K) := op_add.or (op_cat.or (op_catA.or (op_add_str.or op_add_ib)))
theorem d_add : OpD K (rAddA K) addD := fun B H x y d e z Q s hx hy h q => by
  cases hx with
  | int a =>
    cases hy with
    | int b => cases h; exact .inl ⟨a, b, rfl, rfl, q _ B H (Grow.refl s) (.int _)⟩
    | bl b => cases h; exact .inr (.inr (.inr (.inr ⟨a, b, rfl, rfl, q _ B H (Grow.refl s) (.int _)⟩)))
    | _ => cases h
  | str a =>
    cases hy with
    | str b =>
      have h' : (if few (a.length + b.length) = true then some (PyData.str (a ++ b)) else none) = some z := h
      split at h'
      · rename_i hz
        cases h'
        exact .inr (.inr (.inr (.inl ⟨a, b, rfl, rfl, few_line hz, q _ B H (Grow.refl s) (.str _)⟩)))
      · cases h'
    | _ => cases h
  | @lst a xs ds h1 h2 =>
    cases hy with
    | @lst b ys es g1 g2 =>
      have h' : (if few (ds.length + es.length) = true then some (PyData.list (ds ++ es)) else none) = some z := h
      split at h'
      · rename_i hz
        cases h'
        refine .inr (.inl ⟨a, b, xs, ys, rfl, rfl, s _ _ h1, s _ _ g1, by rw [dpAll_len h2, dpAll_len g2]; exact few_line hz, fun p np => ?_⟩)
        obtain ⟨g, dd⟩ := Grow.newLst s np (dpAll_append h2 g2)
        exact q _ _ _ g dd
      · cases h'
    | _ => cases h
  | @tup a xs ds h1 h2 =>
    cases hy with
    | @tup b ys es g1 g2 =>
      have h' : (if few (ds.length + es.length) = true then some (PyData.tuple (ds ++ es)) else none) = some z := h
      split at h'
      · rename_i hz
        cases h'
        refine .inr (.inr (.inl ⟨a, b, xs, ys, rfl, rfl, SqT.of (s _ _ h1), SqT.of (s _ _ g1), by rw [dpAll_len h2, dpAll_len g2]; exact few_line hz, fun ex => ?_, fun _ ey => ?_, fun _ _ p np => ?_⟩))
        · subst ex
          cases h2
          exact q _ B H (Grow.refl s) (.tup g1 g2)
        · subst ey
          cases g2
          rw [List.append_nil] at q
          exact q _ B H (Grow.refl s) (.tup h1 h2)
        · obtain ⟨g, dd⟩ := Grow.newTup s np (dpAll_append h2 g2)
          exact q _ _ _ g dd
      · cases h'
    | _ => cases h
  | _ => cases h
def subD : D → D → Option D
  | .int a, .int b => some (.int (a - b))
  | _, _ => none
theorem d_sub : OpD K (rI0 fun i j => .int (i - j)) subD := fun B H x y d e z Q s hx hy h q => by
  cases hx with
  | int a =>
    cases hy with
    | int b => cases h; exact ⟨a, b, rfl, rfl, q _ B H (Grow.refl s) (.int _)⟩
    | _ => cases h
  | _ => cases h
/-- a factor that is not great -/
def midI (i : Int) : Bool := decide (i.natAbs < 2 ^ 64)
theorem midI_to {i : Int} (h : midI i = true) : -(2 ^ 64) < i ∧ i < 2 ^ 64 := by
  have := of_decide_eq_true h
  constructor <;> omega
def mulD : D → D → Option D
  | .int a, .int b => if midI a = true ∨ midI b = true ∨ a.natAbs.log2 + b.natAbs.log2 < 1000000 then some (.int (a * b)) else none
  | .list xs, .int k => if few xs.length = true ∧ xs.length * k.toNat ≤ 1000000 ∧ -1000000 ≤ k ∧ k ≤ 1000000 then some (.list (List.replicate k.toNat xs).flatten) else none
  | .tuple xs, .int k => if xs.length ≤ 1000 ∧ -1000 ≤ k ∧ k ≤ 1000 then some (.tuple (List.replicate k.toNat xs).flatten) else none
  | _, _ => none
abbrev rMulA (K : PySem.W.Frag) : R2 := fun x y H Q => (rI CMul fun i j => .int (i * j)) x y H Q ∨ (rRep x y H Q ∨ (rRepA K x y H Q ∨ (rI CMulW fun i j => .int (i * j)) x y H Q))
theorem op_mulA {X : Cx} : OpR X (binaryOp .Mult) (rMulA X.K) := op_mul.or (op_rep.or (op_repA.or op_mulW))
theorem d_mul : OpD K (rMulA K) mulD := fun B H x y d e z Q s hx hy h q => by
  cases hx with
  | int a =>
    cases hy with
    | int b =>
      have h' : (if midI a = true ∨ midI b = true ∨ a.natAbs.log2 + b.natAbs.log2 < 1000000 then some (PyData.int (a * b)) else none) = some z := h
      split at h'
      · rename_i hz
        cases h'
        rcases hz with w | w | w
        · exact .inl ⟨a, b, rfl, rfl, .inl (midI_to w), q _ B H (Grow.refl s) (.int _)⟩
        · exact .inl ⟨a, b, rfl, rfl, .inr (midI_to w), q _ B H (Grow.refl s) (.int _)⟩
        · exact .inr (.inr (.inr ⟨a, b, rfl, rfl, w, q _ B H (Grow.refl s) (.int _)⟩))
      · cases h'
    | _ => cases h
  | @lst a xs ds h1 h2 =>
    cases hy with
    | int k =>
      have h' : (if few ds.length = true ∧ ds.length * k.toNat ≤ 1000000 ∧ -1000000 ≤ k ∧ k ≤ 1000000 then some (PyData.list (List.replicate k.toNat ds).flatten) else none) = some z := h
      split at h'
      · rename_i hz
        cases h'
        obtain ⟨z1, z2, z3, z4⟩ := hz
        refine .inr (.inl ⟨a, k, xs, rfl, rfl, s _ _ h1, by omega, by omega, by rw [dpAll_len h2, sizeLine_eq]; omega, fun p np => ?_⟩)
        obtain ⟨g, dd⟩ := Grow.newLst s np (dpAll_rep h2 k.toNat)
        exact q _ _ _ g dd
      · cases h'
    | _ => cases h
  | @tup a xs ds h1 h2 =>
    cases hy with
    | int k =>
      have h' : (if ds.length ≤ 1000 ∧ -1000 ≤ k ∧ k ≤ 1000 then some (PyData.tuple (List.replicate k.toNat ds).flatten) else none) = some z := h
      split at h'
      · rename_i hz
        cases h'
        obtain ⟨z1, z2, z3⟩ := hz
        refine .inr (.inr (.inl ⟨a, k, xs, rfl, rfl, SqT.of (s _ _ h1), by omega, by omega, by rw [dpAll_len h2]; exact z1, fun c1 => ?_, fun hn hk p np => ?_, fun hn hk p np => ?_⟩))
        · have e : (List.replicate k.toNat ds).flatten = ds := by
            rcases c1 with w | w
            · subst w
              cases h2
              exact List.flatten_replicate_nil
            · subst w
              show ([ds] : List (List D)).flatten = ds
              simp
          rw [e] at q
          exact q _ B H (Grow.refl s) (.tup h1 h2)
        · have e : k.toNat = 0 := by omega
          rw [e] at q
          obtain ⟨g, dd⟩ := Grow.newTup s np (DpAll.nil (K := K))
          exact q _ _ _ g dd
        · obtain ⟨g, dd⟩ := Grow.newTup s np (dpAll_rep h2 k.toNat)
          exact q _ _ _ g dd
      · cases h'
    | _ => cases h
  | _ => cases h
def fdivD : D → D → Option D
  | .int a, .int b => if 0 < b ∧ b.natAbs < 1073741824 then some (.int (a / b)) else none
  | _, _ => none
theorem d_fdiv : OpD K (rI CDiv fun i j => .int (i / j)) fdivD := fun B H x y d e z Q s hx hy h q => by
  cases hx with
  | int a =>
    cases hy with
    | int b =>
      have h' : (if 0 < b ∧ b.natAbs < 1073741824 then some (PyData.int (a / b)) else none) = some z := h
      split at h'
      · rename_i hz
        cases h'
        exact ⟨a, b, rfl, rfl, ⟨hz.1, by omega⟩, q _ B H (Grow.refl s) (.int _)⟩
      · cases h'
    | _ => cases h
  | _ => cases h
def modD : D → D → Option D
  | .int a, .int b => if 0 < b then some (.int (a % b)) else none
  | _, _ => none
theorem d_mod : OpD K (rI (fun _ j => 0 < j) fun i j => .int (i % j)) modD := fun B H x y d e z Q s hx hy h q => by
  cases hx with
  | int a =>
    cases hy with
    | int b =>
      have h' : (if 0 < b then some (PyData.int (a % b)) else none) = some z := h
      split at h'
      · rename_i hz
        cases h'
        exact ⟨a, b, rfl, rfl, hz, q _ B H (Grow.refl s) (.int _)⟩
      · cases h'
    | _ => cases h
  | _ => cases h
def powD : D → D → Option D
  | .int a, .int b => if 0 ≤ b ∧ b ≤ 1000000 ∧ a.natAbs < 2 ^ 64 then some (.int (a ^ b.toNat)) else none
  | _, _ => none
theorem d_pow : OpD K (rI CPow fun i j => .int (i ^ j.toNat)) powD := fun B H x y d e z Q s hx hy h q => by
  cases hx with
  | int a =>
    cases hy with
    | int b =>
      have h' : (if 0 ≤ b ∧ b ≤ 1000000 ∧ a.natAbs < 2 ^ 64 then some (PyData.int (a ^ b.toNat)) else none) = some z := h
      split at h'
      · rename_i hz
        cases h'
        exact ⟨a, b, rfl, rfl, hz, q _ B H (Grow.refl s) (.int _)⟩
      · cases h'
    | _ => cases h
  | _ => cases h
def negD : D → Option D
  | .int a => some (.int (-a))
  | _ => none
theorem d_neg : UnD K (rU fun i => .int (-i)) negD := fun B H x d z Q s hx h q => by
  cases hx with
  | int a => cases h; exact ⟨a, rfl, q _ B H (Grow.refl s) (.int _)⟩
  | _ => cases h
/-! ### comparisons -/
def eqD (d e : D) : Option D := if SeqAt.shaped d = true ∧ SeqAt.shaped e = true then some (.bool (PyData.eqv d e)) else none
def neD (d e : D) : Option D := if SeqAt.shaped d = true ∧ SeqAt.shaped e = true then some (.bool (!PyData.eqv d e)) else none
theorem d_eq : OpD K (rEqD K) eqD := fun B H x y d e z Q s hx hy h q => by
  unfold eqD at h
  split at h
  · rename_i hz
    cases h
    exact ⟨d, e, dp_old _ _ (dp_mono s _ _ hx), dp_old _ _ (dp_mono s _ _ hy), hz.1, hz.2, q _ B H (Grow.refl s) (.bl _)⟩
  · cases h
theorem d_ne : OpD K (rNeD K) neD := fun B H x y d e z Q s hx hy h q => by
  unfold neD at h
  split at h
  · rename_i hz
    cases h
    exact ⟨d, e, dp_old _ _ (dp_mono s _ _ hx), dp_old _ _ (dp_mono s _ _ hy), hz.1, hz.2, q _ B H (Grow.refl s) (.bl _)⟩
  · cases h
def cmpD (p : Int → Int → Bool) : D → D → Option D
  | .int a, .int b => some (.bool (p a b))
  | _, _ => none
theorem d_cmp {p : Int → Int → Bool} : OpD K (rI0 fun i j => .bl (p i j)) (cmpD p) := fun B H x y d e z Q s hx hy h q => by
  cases hx with
  | int a =>
    cases hy with
    | int b => cases h; exact ⟨a, b, rfl, rfl, q _ B H (Grow.refl s) (.bl _)⟩
    | _ => cases h
  | _ => cases h
abbrev ltD := cmpD fun i j => decide (i < j)
abbrev leD := cmpD fun i j => decide (i ≤ j)
abbrev gtD := cmpD fun i j => decide (j < i)
abbrev geD := cmpD fun i j => decide (j ≤ i)
theorem d_lt : OpD K (rI0 fun i j => .bl (decide (i < j))) ltD := d_cmp
theorem d_le : OpD K (rI0 fun i j => .bl (decide (i ≤ j))) leD := d_cmp
theorem d_gt : OpD K (rI0 fun i j => .bl (decide (j < i))) gtD := d_cmp
theorem d_ge : OpD K (rI0 fun i j => .bl (decide (j ≤ i))) geD := d_cmp
def isNone : D → Bool
  | .none => true
  | _ => false
def isND : D → D → Option D
  | d, .none => some (.bool (isNone d))
  | _, _ => none
/-! in, not in -/
/-! ### subscripts, slices -/
def ixD : D → D → Option D
  | .list xs, .int i => atI xs i
  | .tuple xs, .int i => atI xs i
  | _, _ => none
theorem d_ix : OpD K (rIx K) ixD := fun B H x y d e z Q s hx hy h q => by
  cases hx with
  | @lst a xs ds h1 h2 =>
    cases hy with
    | int i =>
      obtain ⟨v, e1, e2⟩ := dpAll_at h2 h
      exact .inl ⟨a, xs, i, v, rfl, rfl, SqL.of (s _ _ h1), e1, q v B H (Grow.refl s) e2⟩
    | _ => cases h
  | @tup a xs ds h1 h2 =>
    cases hy with
    | int i =>
      obtain ⟨v, e1, e2⟩ := dpAll_at h2 h
      exact .inr (.inl ⟨a, xs, i, v, rfl, rfl, SqT.of (s _ _ h1), e1, q v B H (Grow.refl s) e2⟩)
    | _ => cases h
  | _ => cases h
def cutL {α : Type} (xs : List α) (lo hi : Option Int) : List α := (xs.drop (HT.sIx xs.length 0 lo)).take (HT.sIx xs.length xs.length hi - HT.sIx xs.length 0 lo)
theorem dpAll_cut {B : Hp} {ds : List D} {vs : List V} (lo hi : Option Int) (h : DpAll K B vs ds) : DpAll K B (cutV vs lo hi) (cutL ds lo hi) := by
  unfold cutV cutL
  rw [dpAll_len h]
  exact dpAll_take _ (dpAll_drop _ h)
def slD : D → Option Int → Option Int → Option D
  | .list xs, lo, hi => some (.list (cutL xs lo hi))
  | .tuple xs, lo, hi => some (.tuple (cutL xs lo hi))
  | _, _, _ => none
abbrev rSlX (K : PySem.W.Frag) : V → Option Int → Option Int → Hp → VK → Prop := fun x lo hi H Q => rSlL K x lo hi H Q ∨ rSlA K x lo hi H Q
theorem sl_any {X : Cx} : SlR X (rSlX X.K) := sl_list.or sl_tupA
theorem d_sl : SlD K (rSlX K) slD := fun B H x d z lo hi Q s hx h q => by
  cases hx with
  | @lst a xs ds h1 h2 =>
    cases h
    refine .inl ⟨a, xs, rfl, SqL.of (s _ _ h1), fun p np => ?_⟩
    obtain ⟨g, dd⟩ := Grow.newLst s np (dpAll_cut lo hi h2)
    exact q _ _ _ g dd
  | @tup a xs ds h1 h2 =>
    cases h
    refine .inr ⟨a, xs, rfl, SqT.of (s _ _ h1), fun hw => ?_, fun _ p np => ?_⟩
    · have e : cutL ds lo hi = ds := by
        unfold cutL
        rw [← dpAll_len h2, hw.1, hw.2, List.drop_zero, Nat.sub_zero, dpAll_len h2, List.take_length]
      rw [e] at q
      exact q _ B H (Grow.refl s) (.tup h1 h2)
    · obtain ⟨g, dd⟩ := Grow.newTup s np (dpAll_cut lo hi h2)
      exact q _ _ _ g dd
  | _ => cases h
/-! ### built-ins -/
theorem dpAll_1 {B : Hp} {xs : List V} {d : D} (h : DpAll K B xs [d]) : ∃ x, xs = [x] ∧ Dp K B x d := by
  cases h with
  | cons h1 h2 => cases h2; exact ⟨_, rfl, h1⟩
def lenD : List D → Option D
  | [.list xs] => some (.int xs.length)
  | [.tuple xs] => some (.int xs.length)
  | _ => none
theorem d_len : CallD K (fun xs H Q => ∃ p ys, xs = [.ref p] ∧ (SqL K H p ys ∨ SqT K H p ys) ∧ Q (.int ys.length) H) lenD := fun B H xs ds z Q s hx h q => by
  unfold lenD at h
  split at h
  · cases h
    obtain ⟨x, rfl, h1⟩ := dpAll_1 hx
    obtain ⟨a, vs, rfl, g1, g2⟩ := dp_list h1
    refine ⟨a, vs, rfl, .inl (SqL.of (s _ _ g1)), ?_⟩
    rw [dpAll_len g2]
    exact q _ B H (Grow.refl s) (.int _)
  · cases h
    obtain ⟨x, rfl, h1⟩ := dpAll_1 hx
    obtain ⟨a, vs, rfl, g1, g2⟩ := dp_tuple h1
    refine ⟨a, vs, rfl, .inr (SqT.of (s _ _ g1)), ?_⟩
    rw [dpAll_len g2]
    exact q _ B H (Grow.refl s) (.int _)
  · cases h
/-- all of them ints, bools -/
def intsD : List D → Option (List Int)
  | [] => some []
  | .int i :: ds => (intsD ds).map (i :: ·)
  | _ :: _ => none
def boolsD : List D → Option (List Bool)
  | [] => some []
  | .bool i :: ds => (boolsD ds).map (i :: ·)
  | _ :: _ => none
theorem ints_ok {B : Hp} : ∀ {ds : List D} {vs : List V} {ns : List Int}, DpAll K B vs ds → intsD ds = some ns → vs = ns.map V.int
  | [], _, _, h, e => by cases h; cases e; rfl
  | d :: ds, _, ns, h, e => by
    cases h with
    | cons h1 h2 =>
      cases d with
      | int i =>
        obtain ⟨ms, e1, e2⟩ := Option.map_eq_some_iff.mp (show (intsD ds).map (i :: ·) = some ns from e)
        subst e2
        rw [ints_ok h2 e1, dp_int h1]
        rfl
      | _ => cases e
theorem bools_ok {B : Hp} : ∀ {ds : List D} {vs : List V} {ns : List Bool}, DpAll K B vs ds → boolsD ds = some ns → vs = ns.map V.bl
  | [], _, _, h, e => by cases h; cases e; rfl
  | d :: ds, _, ns, h, e => by
    cases h with
    | cons h1 h2 =>
      cases d with
      | bool i =>
        obtain ⟨ms, e1, e2⟩ := Option.map_eq_some_iff.mp (show (boolsD ds).map (i :: ·) = some ns from e)
        subst e2
        rw [bools_ok h2 e1, dp_bool h1]
        rfl
      | _ => cases e
theorem intsD_map : ∀ ns : List Int, intsD (ns.map PyData.int) = some ns
  | [] => rfl
  | n :: ns => by
    show (intsD (ns.map PyData.int)).map (n :: ·) = _
    rw [intsD_map ns]
    rfl
theorem boolsD_map : ∀ ns : List Bool, boolsD (ns.map PyData.bool) = some ns
  | [] => rfl
  | n :: ns => by
    show (boolsD (ns.map PyData.bool)).map (n :: ·) = _
    rw [boolsD_map ns]
    rfl
def maxL : List Int → Int
  | [] => 0
  | [x] => x
  | x :: y :: r => max x (maxL (y :: r))
def minL : List Int → Int
  | [] => 0
  | [x] => x
  | x :: y :: r => min x (minL (y :: r))
def maxD : List D → Option D
  | [.list xs] => (intsD xs).bind fun ns => if ns = [] then none else some (.int (maxL ns))
  | [.int i, .int j] => some (.int (max i j))
  | _ => none
def minD : List D → Option D
  | [.list xs] => (intsD xs).bind fun ns => if ns = [] then none else some (.int (minL ns))
  | [.int i, .int j] => some (.int (min i j))
  | _ => none
abbrev rMaxA (K : PySem.W.Frag) : List V → Hp → VK → Prop := fun xs H Q => rMax K xs H Q ∨ (∃ i j, xs = [.int i, .int j] ∧ Q (.int (if j > i then j else i)) H)
abbrev rMinA (K : PySem.W.Frag) : List V → Hp → VK → Prop := fun xs H Q => rMin K xs H Q ∨ (∃ i j, xs = [.int i, .int j] ∧ Q (.int (if j < i then j else i)) H)
theorem call_maxA {X : Cx} (hc : X.calm = true) : CallR X (.builtin "max") (rMaxA X.K) := (cr_max hc).or (call_max2 hc)
theorem call_minA {X : Cx} (hc : X.calm = true) : CallR X (.builtin "min") (rMinA X.K) := (cr_min hc).or (call_min2 hc)
def intD : List D → Option D
  | [.int i] => some (.int i)
  | [.bool k] => some (.int (if k then 1 else 0))
  | _ => none
def allD : List D → Option D
  | [.list xs] => (boolsD xs).map fun bs => .bool (bs.all id)
  | _ => none
theorem d_all : CallD K (rAll K) allD := fun B H xs ds z Q s hx h q => by
  unfold allD at h
  split at h
  · obtain ⟨ns, e1, e2⟩ := Option.map_eq_some_iff.mp h
    subst e2
    obtain ⟨x, rfl, h1⟩ := dpAll_1 hx
    obtain ⟨a, vs, rfl, g1, g2⟩ := dp_list h1
    refine ⟨a, ns, rfl, ?_, q _ B H (Grow.refl s) (.bl _)⟩
    rw [← bools_ok g2 e1]
    exact SqL.of (s _ _ g1)
  · cases h
/-- list(xs), list(t): always a new one -/
def sListOf (a : SA) : SL := fun ρ c => (a ρ c).bind fun p => match p.1 with
  | [.list xs] => some (xs, p.2)
  | [.tuple xs] => some (xs, p.2)
  | _ => none
abbrev rListOf (K : PySem.W.Frag) : List V → Hp → VK → Prop := fun xs H Q => ∃ p ys, xs = [.ref p] ∧ (SqL K H p ys ∨ SqT K H p ys) ∧ ∀ l, H l = none → Q (.ref l) (upd H l (.lst ys))
theorem imp_listOf {t : TA} {a : SA} (h : ImpA K t a) : ImpL K (tCB (rListOf K) t) (sListOf a) := fun ad B σ H ρ c ds c' Q R e q => by
  obtain ⟨⟨xs, c1⟩, e1, e2⟩ := Option.bind_eq_some_iff.mp e
  refine h ad B σ H ρ c xs c1 _ R e1 fun vs B1 H1 x dv => ?_
  split at e2
  · rename_i p ys e3
    have e3' : xs = [.list ys] := e3
    subst e3'
    cases e2
    obtain ⟨v, rfl, h1⟩ := dpAll_1 dv
    obtain ⟨a, us, rfl, g1, g2⟩ := dp_list h1
    exact ⟨a, us, rfl, .inl (SqL.of (x.bh _ _ g1)), fun l hl => q l us B1 _ H1 x hl rfl g2⟩
  · rename_i p ys e3
    have e3' : xs = [.tuple ys] := e3
    subst e3'
    cases e2
    obtain ⟨v, rfl, h1⟩ := dpAll_1 dv
    obtain ⟨a, us, rfl, g1, g2⟩ := dp_tuple h1
    exact ⟨a, us, rfl, .inr (SqT.of (x.bh _ _ g1)), fun l hl => q l us B1 _ H1 x hl rfl g2⟩
  · cases e2
def tupleD : List D → Option D
  | [.list xs] => some (.tuple xs)
  | [.tuple xs] => some (.tuple xs)
  | _ => none
theorem d_tuple : CallD K (fun xs H Q => ∃ p ys, xs = [.ref p] ∧ ((SqL K H p ys ∧ ∀ l, H l = none → Q (.ref l) (upd H l (.tup ys))) ∨ (SqT K H p ys ∧ Q (.ref p) H))) tupleD := fun B H xs ds z Q s hx h q => by
  unfold tupleD at h
  split at h
  · cases h
    obtain ⟨x, rfl, h1⟩ := dpAll_1 hx
    obtain ⟨a, vs, rfl, g1, g2⟩ := dp_list h1
    refine ⟨a, vs, rfl, .inl ⟨SqL.of (s _ _ g1), fun p np => ?_⟩⟩
    obtain ⟨g, dd⟩ := Grow.newTup s np g2
    exact q _ _ _ g dd
  · cases h
    obtain ⟨x, rfl, h1⟩ := dpAll_1 hx
    obtain ⟨a, vs, rfl, g1, g2⟩ := dp_tuple h1
    exact ⟨a, vs, rfl, .inr ⟨SqT.of (s _ _ g1), q _ B H (Grow.refl s) (.tup g1 g2)⟩⟩
  · cases h
/-! lists made by display, +, * -/
def sDispL (a : SA) : SL := fun ρ c => (a ρ c).bind fun p => if few p.1.length = true then some p else none
theorem imp_dispL {t : TA} {a : SA} (h : ImpA K t a) : ImpL K (tLst t) (sDispL a) := fun ad B σ H ρ c ds c' Q R e q => by
  obtain ⟨⟨xs, c1⟩, e1, e2⟩ := Option.bind_eq_some_iff.mp e
  split at e2
  · rename_i hz
    cases e2
    exact h ad B σ H ρ c ds c' _ R e1 fun vs B1 H1 x dv => ⟨by rw [dpAll_len dv]; exact few_line hz, fun p np => q p vs B1 _ H1 x np rfl dv⟩
  · cases e2
/-- [a] * n -/
def sRepL (a : SL) (b : SE) : SL := fun ρ c => (a ρ c).bind fun p => (b ρ p.2).bind fun q => match q.1 with
  | .int k => if few p.1.length = true ∧ p.1.length * k.toNat ≤ 1000000 ∧ -1000000 ≤ k ∧ k ≤ 1000000 then some ((List.replicate k.toNat p.1).flatten, q.2) else none
  | _ => none
end
end DL
/-! DLi: enumerate and zip of lists and tuples in any mix. -/
namespace DL
open PySem PySem.Spec L2
open AutoSeq1 (wpAny_loadPart')
/-- a list, or (t) a tuple -/
def SqK (t : Bool) (K : PySem.W.Frag) (H : Hp) (a : Addr) (xs : List V) : Prop := if t = true then SqT K H a xs else SqL K H a xs
def itIs (t : Bool) (h : Heap) (it a : Addr) (i : Nat) : Prop := if t = true then h.IsTupleIter it a i else h.IsListIter it a i
def isSq (t : Bool) (h : Heap) (a : Addr) (its : Array Value) : Prop := if t = true then h.IsTuple a its else h.IsList a its
def itObj (t : Bool) (a : Addr) : Obj := if t = true then { cls := .type "tuple_iterator", data := .fields #[.ref a, .int 0 0] } else { cls := .type "list_iterator", data := .fields #[.ref a, .int 0 0] }
theorem drawsB (t : Bool) {prog : Program} {w : World} {A : Around} (hh : A.handled = none) (it a : Addr) (hne : a ≠ it) (items : Array Value) :
    Draws prog w A it [it, a] items.size (fun i v => items[i]? = some v) (fun i h => itIs t h it a i ∧ isSq t h a items) := by
  cases t with
  | true => exact Draws.tuple hh it a hne items
  | false => exact Draws.list hh it a hne items
theorem beginsB (t : Bool) (a : Addr) (items : Array Value) : Begins (.ref a) (itObj t a) fun h => isSq t h a items := by
  cases t with
  | true => exact begins_tuple a items
  | false => exact begins_list a items
theorem itIs_of {t : Bool} {h : Heap} {it a : Addr} (e : h.get? it = some (itObj t a)) : itIs t h it a 0 := by
  cases t with
  | true => exact ⟨_, e, rfl, rfl⟩
  | false => exact ⟨_, e, rfl, rfl⟩
theorem itIs_obj {t : Bool} {h : Heap} {it a : Addr} {i : Nat} (e : itIs t h it a i) : ∃ o, h.get? it = some o ∧ ∀ v, o.data ≠ .cell v := by
  cases t with
  | true => obtain ⟨o, e1, _, d⟩ := (show h.IsTupleIter it a i from e); exact ⟨o, e1, fun v q => by rw [d] at q; cases q⟩
  | false => obtain ⟨o, e1, _, d⟩ := (show h.IsListIter it a i from e); exact ⟨o, e1, fun v q => by rw [d] at q; cases q⟩
theorem itIs_at {t : Bool} {h h' : Heap} {it a : Addr} {i : Nat} (e : itIs t h it a i) (k : ∀ o, h.get? it = some o → h'.get? it = some o) : itIs t h' it a i := by
  cases t with
  | true => exact (show h.IsTupleIter it a i from e).at k
  | false => exact (show h.IsListIter it a i from e).at k
theorem sqK_inv {t : Bool} {X : Cx} {pins : List (Addr × Obj)} {σ : L2.St} {H : Hp} {s : Shared} {a : Addr} {xs : List V} (I : L2.Inv X pins σ H s) (h : SqK t X.K H a xs) : ∃ its : List Value, Vals xs its ∧ isSq t s.heap a its.toArray ∧ ∃ o, s.heap.get? a = some o := by
  cases t with
  | true =>
    obtain ⟨its, r, p, _⟩ := I.tuple (show SqT X.K H a xs from h)
    obtain ⟨o, ho, _⟩ := id p
    exact ⟨its, r, p, o, ho⟩
  | false =>
    obtain ⟨its, r, p, _⟩ := I.list (show SqL X.K H a xs from h)
    obtain ⟨o, n, ho, _⟩ := id p
    exact ⟨its, r, p.isList, o, ho⟩
theorem sqK_inj {t : Bool} {X : Cx} {pins : List (Addr × Obj)} {σ : L2.St} {H : Hp} {s : Shared} {a : Addr} {xs ys : List V} (I : L2.Inv X pins σ H s) (h : SqK t X.K H a xs) (h' : SqK t X.K H a ys) : xs = ys := by
  cases t with
  | true => exact I.tuple_inj (show SqT X.K H a xs from h) (show SqT X.K H a ys from h')
  | false => exact I.list_inj (show SqL X.K H a xs from h) (show SqL X.K H a ys from h')
/-! ### enumerate -/
set_option maxHeartbeats 4000000 in
theorem meets_enum_new1 {v : Value} {o : Obj} {H : Heap → Prop} (B : Begins v o H) :
    Meets (Builtin.«enumerate.__new__» ⟨[.type "enumerate", v], []⟩) (fun _ R s => H s.heap ∧
      R (.ok (.ret (.ref (s.heap.push o).objs.size))) { s with heap := (s.heap.push o).push { cls := .type "enumerate", data := .fields #[.none, .bool false, .ref s.heap.objs.size, rawInt 0, .none, .none] } }) :=
  .of_wp fun prog w A R s h => by
    obtain ⟨hp, g, d, tk, os⟩ := s
    obtain ⟨h1, h⟩ := h
    have hsub := sub_enumerate
    have q1 : ∀ {A' : Around} {E : Value → Shared → Prop} {Q : Value → Shared → Prop}, Q (.ref hp.objs.size) ⟨(hp.push o), g, d, tk, os⟩ → wpAny (model prog w) A' (pyIter v) Q E ⟨hp, g, d, tk, os⟩ :=
      fun q => B.iter prog w _ _ ⟨hp, g, d, tk, os⟩ _ h1 q
    wp_walk using q1
    refine wpAny_stack_any fun st => wpAny_pure ?_
    split
    · rename_i c _ _ _ _ _
      cases (c == Value.type "enumerate")
      · wp_walk using q1
        exact ⟨_, rfl, h⟩
      · wp_walk using q1
        exact ⟨_, rfl, h⟩
    · wp_walk using q1
      exact ⟨_, rfl, h⟩
theorem enum_begins1 {prog : Program} {w : World} {A : Around} {E : Value → Shared → Prop} {s : Shared} {v : Value} {o : Obj} {H : Heap → Prop} {Q : Value → Shared → Prop} (B : Begins v o H) (h1 : H s.heap)
    (h : ∀ h', IsEnum h' (s.heap.objs.size + 1) s.heap.objs.size 0 .none → h'.get? s.heap.objs.size = some o → h'.objs.size = s.heap.objs.size + 2 →
      (∀ b o, s.heap.get? b = some o → h'.get? b = some o) → Q (.ref (s.heap.objs.size + 1)) { s with heap := h' }) :
    wpAny (model prog w) A (call (.type "enumerate") [v]) Q E s := by
  refine callType_new F.called_enumerate (by decide) (F.typeCall_enumerate_1 _) (F.newCall_enumerate_1 _) (fun obj => F.args_object_init_2 obj _) F.entry_enumerate_new
    (meets_enum_new1 B) ⟨h1, ?_⟩
  have hz : (s.heap.push o).objs.size = s.heap.objs.size + 1 := Heap.size_push ..
  show _ ∧ _
  rw [hz]
  have he : IsEnum ((s.heap.push o).push { cls := .type "enumerate", data := .fields #[.none, .bool false, .ref s.heap.objs.size, rawInt 0, .none, .none] }) (s.heap.objs.size + 1) s.heap.objs.size 0 .none := by
    have := Heap.get?_push_size (s.heap.push o) (o := { cls := .type "enumerate", data := .fields #[.none, .bool false, .ref s.heap.objs.size, rawInt 0, .none, .none] }) rfl
    rw [hz] at this; exact this
  refine ⟨⟨_, he, rfl⟩, h _ he (Heap.get?_push_of_some _ (Heap.get?_push_size _ B.free)) (by rw [Heap.size_push, hz]) fun b o x => Heap.get?_push_of_some _ (Heap.get?_push_of_some _ x)⟩
def IteK (t : Bool) (K : PySem.W.Frag) (a : Addr) : It :=
  ⟨fun i H => ∃ (xs : List V) (x : V), SqK t K H a xs ∧ xs[i]? = some x, fun i H v H' => ∃ T x, v = .ref T ∧ H T = none ∧ H' = upd H T (.tup [.int (i : Nat), x]) ∧ ∀ xs, SqK t K H a xs → xs[i]? = some x, fun i H => ∃ xs : List V, SqK t K H a xs ∧ xs.length = i⟩
theorem turn_enumK (t : Bool) {P : Program} {w : World} {K : PySem.W.Frag} {elts : List Expr} {kk : Nat} {tpos : Pos} (a e it : Addr) (hea : e ≠ a) (hai : a ≠ it) :
    Turn P w K (.Tuple elts kk tpos) (IteK t K a) [e, it] e (fun i h => (∃ old, IsEnum h e it ((i : Nat) : Int) old) ∧ itIs t h it a i ∧ e ≠ it) where
  mem := by simp
  obj := fun i h st b hb => by
    obtain ⟨⟨old, he⟩, hi, _⟩ := st
    have e' : b = e ∨ b = it := by simpa using hb
    rcases e' with z | z
    · rw [z]; exact ⟨_, he, fun v q => nomatch q⟩
    · rw [z]; exact itIs_obj hi
  keep := fun i h h' st k => let ⟨⟨old, he⟩, hi, hne⟩ := st; ⟨⟨old, k e (by simp) _ he⟩, itIs_at hi fun o q => k it (by simp) o q, hne⟩
  item := by
    intro X hP hw hK hc i pins s σ H E I hf st hg
    subst hP hw hK
    obtain ⟨⟨old, he⟩, hit, hne⟩ := st
    obtain ⟨xs, x, hq, hx⟩ := hg
    obtain ⟨its, rv, p, _⟩ := sqK_inv I hq
    obtain ⟨u, hu, ru⟩ := rv.get hx
    have hel : e < s.heap.objs.size := Heap.lt_size he
    have hil : it < s.heap.objs.size := by obtain ⟨_, q, _⟩ := itIs_obj hit; exact Heap.lt_size q
    have hlt : i < its.toArray.size := by rw [List.size_toArray]; exact (List.getElem?_eq_some_iff.mp hu).1
    refine wpAny_pyNext_enum_itemC (drawsB t (A := X.A.in1) (I.ok.hd hc) it a hai its.toArray) he ⟨hit, p⟩ hlt hne (by simp [hne, hea]) fun u' h' tk hu' ho st' hT hsz hk => ?_
    have eu : u' = u := by
      have h1 : its.toArray[i]? = some u' := hu'
      have h2 : its.toArray[i]? = some u := by simpa using hu
      rw [h1] at h2; exact Option.some.inj h2
    subst eu
    refine ⟨_, rfl, wpAny_letOwnedTupleGo_enum (s := { s with heap := h', toks := tk + 1 }) ho fun h'' he' sb => ?_⟩
    have hT2 : h''.get? s.heap.objs.size = some { cls := .type "tuple", data := .seq #[.int i tk, u'] } := (sb.2 _ (Nat.ne_of_gt hel)).trans hT
    have new : ObjOk X.prog X.w (upd H s.heap.objs.size (.tup [.int (i : Nat), x])) h'' s.heap.objs.size (.tup [.int (i : Nat), x]) :=
      ⟨by show 2 ≤ sizeLine; decide, [.int i tk, u'], .cons ⟨_, rfl⟩ (.cons ru .nil), ⟨_, hT2, rfl, _, rfl⟩⟩
    have I1 : L2.Inv X pins σ (upd H s.heap.objs.size (.tup [.int (i : Nat), x])) { s with heap := h'', toks := tk + 1 } :=
      I.turnedNew (ch := [e, it]) (fun b ob hb q => (sb.2 b (fun z => hb (by simp [z]))).trans (hk b ob (fun z => hb (by simp [z])) (fun z => hb (by simp [z])) q)) hf (Nat.le_refl _) new
    refine ⟨.ref s.heap.objs.size, _, I1, rfl, ⟨_, x, rfl, I.hok.fresh (Nat.le_refl _), rfl, fun ys hy => by rw [sqK_inj I hy hq]; exact hx⟩, ⟨⟨u', ?_⟩, itIs_at st'.1 fun o q => (sb.2 it (Ne.symm hne)).trans q, hne⟩, fun b hb => ?_⟩
    · have e1 : ((i + 1 : Nat) : Int) = (i : Int) + 1 := by omega
      rw [e1]; exact he'
    · have hb' : b < s.heap.objs.size := by
        have e' : b = e ∨ b = it := by simpa using hb
        rcases e' with z | z
        · rw [z]; exact hel
        · rw [z]; exact hil
      rw [upd_ne (Nat.ne_of_lt hb')]
      exact (hf b hb).1
  done := by
    intro X hP hw hK hc i pins s σ H E I hf st hg
    subst hP hw hK
    obtain ⟨⟨old, he⟩, hit, hne⟩ := st
    obtain ⟨xs, hq, hx⟩ := hg
    obtain ⟨its, rv, p, _⟩ := sqK_inv I hq
    obtain ⟨f0, f1, f2, f3, f4, f5⟩ := hf it (by simp)
    have hl := rv.length
    have ei : i = its.toArray.size := by rw [List.size_toArray]; omega
    subst ei
    exact wpAny_pyNext_enum_endD (drawsB t (A := X.A.in1) (I.ok.hd hc) it a hai its.toArray) he ⟨hit, p⟩ fun h' eb => ⟨rfl, I.turned (t' := s.toks) (fun b o hb q => eb b o hb q) f0 f1 f3 f4 f5⟩
  self := fun A i s Q E st h => let ⟨⟨_, he⟩, _⟩ := st; wpAny_pyIter_enum he h
def iEnumK (K : PySem.W.Frag) (ta : TA) : TI := fun σ H R => ta σ H fun vs H1 => ∃ (t : Bool) (a : Addr) (xs : List V), vs = [.ref a] ∧ SqK t K H1 a xs ∧ R (IteK t K a) H1
theorem pi_enumK {X : Cx} {e : Expr} {ta : TA} {p pos tpos : Pos} {elts : List Expr} {kk : Nat} (hg : Gl X "enumerate") (hm : X.mg "enumerate" = none) (ha : PA X [e] ta) (hs : starEach [e] X.env = [(false, eval e X.env)] := by rfl) :
    PI X (.Tuple elts kk tpos) (.Call (.Name "enumerate" p) [e] [] pos) (iEnumK X.K ta) := by
  refine ⟨fun pins s σ H R I h => ?_⟩
  refine PyProof.Rows.Call_ (ld_blt I hg hm PyProof.Rows.boot_enumerate (PyProof.Rows.callWith_type1 (thn (ha.run pos pins s σ H _ I h) fun us s1 ⟨vs, H1, I1, r1, q1⟩ => ?_) hs rfl))
  obtain ⟨t, a, xs, ex, hq, q⟩ := q1
  subst ex
  cases r1 with
  | cons r rr =>
    cases rr
    cases r
    obtain ⟨its, rv, p', oo, hoo⟩ := sqK_inv I1 hq
    have hlt : a < s1.heap.objs.size := Heap.lt_size hoo
    refine enum_begins1 (beginsB t a its.toArray) p' fun h' he hit hsz hk => wpAny_pyIter_enum he ?_
    have I2 : L2.Inv X pins σ H1 { s1 with heap := h' } := I1.kept (t' := s1.toks) hk
    refine ⟨s1.heap.objs.size + 1, [s1.heap.objs.size + 1, s1.heap.objs.size], _, _, H1, rfl, I2, turn_enumK t a (s1.heap.objs.size + 1) s1.heap.objs.size (Nat.ne_of_gt (Nat.lt_succ_of_lt hlt)) (Nat.ne_of_lt hlt), ⟨⟨.none, he⟩, itIs_of hit, Nat.succ_ne_self _⟩, fun b hb => ?_, q⟩
    have e' : b = s1.heap.objs.size + 1 ∨ b = s1.heap.objs.size := by simpa using hb
    have hle : s1.heap.objs.size ≤ b := by
      rcases e' with z | z
      · rw [z]; exact Nat.le_add_right _ _
      · rw [z]; exact Nat.le_refl _
    exact I1.fpOk hle (I1.hok.fresh hle)

/-! ### zip -/
section
variable {K : PySem.W.Frag}
/-! ### on data -/
def seqD : D → Option (List D)
  | .list xs => some xs
  | .tuple xs => some xs
  | _ => none
theorem seqD_ok {B H : Hp} {v : V} {d : D} {xs : List D} (s : Same B H) (h : Dp K B v d) (e : seqD d = some xs) : ∃ (t : Bool) (a : Addr) (vs : List V), v = .ref a ∧ DpAll K B vs xs ∧ ∀ H2, Same B H2 → SqK t K H2 a vs := by
  cases h with
  | @lst a vs ds h1 h2 => cases e; exact ⟨false, a, vs, rfl, h2, fun H2 m => SqL.of (m _ _ h1)⟩
  | @tup a vs ds h1 h2 => cases e; exact ⟨true, a, vs, rfl, h2, fun H2 m => SqT.of (m _ _ h1)⟩
  | _ => cases e
def enumL (xs : List D) : List D := (xs.zipIdx).map fun p => .tuple [.int (p.2 : Nat), p.1]
def sEnum (a : SE) : SI := fun ρ c => (a ρ c).bind fun p => (seqD p.1).bind fun xs => some (enumL xs, p.2)
def zipL : List D → List D → List D
  | x :: xs, y :: ys => .tuple [x, y] :: zipL xs ys
  | _, _ => []
theorem zipL_get : ∀ {xs ys : List D} {i : Nat} {d : D}, (zipL xs ys)[i]? = some d → ∃ x y, xs[i]? = some x ∧ ys[i]? = some y ∧ d = .tuple [x, y]
  | x :: xs, y :: ys, 0, d, h => by
    have h' : some (PyData.tuple [x, y]) = some d := h
    cases h'
    exact ⟨x, y, rfl, rfl, rfl⟩
  | x :: xs, y :: ys, i + 1, d, h => zipL_get (xs := xs) (ys := ys) (i := i) h
  | [], _, _, _, h => by simp [zipL] at h
  | _ :: _, [], _, _, h => by simp [zipL] at h
theorem zipL_len : ∀ xs ys : List D, (zipL xs ys).length = min xs.length ys.length
  | x :: xs, y :: ys => by
    show (zipL xs ys).length + 1 = min (xs.length + 1) (ys.length + 1)
    rw [zipL_len xs ys]; omega
  | [], ys => by simp [zipL]
  | _ :: _, [] => by simp [zipL]
def sZip (a b : SE) : SI := fun ρ c => (a ρ c).bind fun p => (b ρ p.2).bind fun q => (seqD p.1).bind fun xs => (seqD q.1).bind fun ys => some (zipL xs ys, q.2)
end
end DL
/-! DLh: dicts of ints, stores of several names, isinstance, slices with a step. -/
namespace DL
open PySem PySem.Spec L2
section
variable {K : PySem.W.Frag}
/-! ### dicts -/
def kvLook (kvs : List (Int × D)) (k : Int) : Option D := (kvs.find? fun p => decide (p.1 = k)).map (·.2)
/-- a dict at a slot -/
def dictAt (s : Option Sl) : Option (List (Int × D)) := match s with
  | some (.od kvs) => some kvs
  | some (.fd kvs) => some kvs
  | _ => none
theorem Rl.dict {ad : Option Addr} {B H : Hp} {σ : L2.St} {ρ : Rho} {c : Dr} (r : Rl K ad B σ H ρ c) {i : Nat} {kvs : List (Int × D)} (e : dictAt ρ[i]? = some kvs) : ∃ a ks, σ[i]? = some (some (.ref a)) ∧ Rd H a (.dK ks) ∧ ad ≠ some a ∧ KvOk K B ks kvs := by
  unfold dictAt at e
  split at e
  · rename_i h
    cases e
    obtain ⟨a, ks, e1, e2, e3, e4, e5⟩ := r.slot i _ h
    exact ⟨a, ks, e1, .inl e2, e4, e5⟩
  · rename_i h
    cases e
    obtain ⟨a, w, ks, e1, e2, e3, e4, e5⟩ := r.slot i _ h
    exact ⟨a, ks, e1, .inr ⟨w, e2⟩, e4, e5⟩
  · cases e
theorem Fw.rd {ad : Option Addr} {c' : Dr} {B H B' H' : Hp} {a : Addr} {u : HO} (x : Fw ad c' B H B' H') (h : Rd H a u) (n : ad ≠ some a) : Rd H' a u := by
  rcases h with h | ⟨o, h⟩
  · exact .inl (x.keep a _ n h)
  · exact .inr ⟨o, x.keep a _ n h⟩
/-- d.get(k, x) -/
def sDGet2 (i : Nat) (k x : SE) : SE := fun ρ c => (dictAt ρ[i]?).bind fun kvs => (k ρ c).bind fun p => match p.1 with
  | .int j => (x ρ p.2).bind fun q => some ((kvLook kvs j).getD q.1, q.2)
  | _ => none
/-! a dict walked: it stands still meanwhile, and is not known behind -/
/-! ### several names at once -/
/-! ### isinstance -/
inductive Cl where
  | int | bool | str | tuple | list
def Cl.nm : Cl → String
  | .int => "int" | .bool => "bool" | .str => "str" | .tuple => "tuple" | .list => "list"
def tyN : D → String
  | .none => "NoneType" | .bool _ => "bool" | .int _ => "int" | .str _ => "str" | .list _ => "list" | .tuple _ => "tuple" | .dict _ => "dict"
def isB : Cl → D → Bool
  | .int, .int _ => true | .int, .bool _ => true | .bool, .bool _ => true | .str, .str _ => true | .tuple, .tuple _ => true | .list, .list _ => true
  | _, _ => false
theorem kitC (c : Cl) (d : D) (h : ∀ k, d ≠ .dict k) : kitB (tyN d) c.nm = some (isB c d) := by
  cases d with
  | dict k => exact absurd rfl (h k)
  | none => cases c <;> decide +kernel
  | bool b => cases c <;> first | (show kitB "bool" _ = some true; decide +kernel) | (show kitB "bool" _ = some false; decide +kernel)
  | int b => cases c <;> first | (show kitB "int" _ = some true; decide +kernel) | (show kitB "int" _ = some false; decide +kernel)
  | str b => cases c <;> first | (show kitB "str" _ = some true; decide +kernel) | (show kitB "str" _ = some false; decide +kernel)
  | list b => cases c <;> first | (show kitB "list" _ = some true; decide +kernel) | (show kitB "list" _ = some false; decide +kernel)
  | tuple b => cases c <;> first | (show kitB "tuple" _ = some true; decide +kernel) | (show kitB "tuple" _ = some false; decide +kernel)
theorem dp_ty {B H : Hp} {v : V} {d : D} (s : Same B H) (h : Dp K B v d) : TyX K H v (.type (tyN d)) := by
  cases h with
  | non => exact .base .non
  | bl b => exact .base (.bl b)
  | int i => exact .base (.int i)
  | str x => exact .base (.str x)
  | lst h1 h2 => exact .base (.lst (s _ _ h1))
  | tup h1 h2 => exact .base (.tup (s _ _ h1))
theorem dp_nodict {B : Hp} {v : V} {d : D} (h : Dp K B v d) : ∀ k, d ≠ .dict k := fun k e => by subst e; cases h
def sIsi (k : Cl) (a : SE) : SE := fun ρ c => (a ρ c).bind fun p => some (.bool (isB k p.1), p.2)
theorem imp_isi {k : Cl} {t : TE} {a : SE} (h : ImpE K t a) : ImpE K (tCB (rIsi K) (tCons t (tCons (tC (.ty k.nm)) tNil))) (sIsi k a) := fun ad B σ H ρ c d c' Q R e q => by
  obtain ⟨⟨x, c1⟩, e1, e2⟩ := Option.bind_eq_some_iff.mp e
  cases e2
  refine h ad B σ H ρ c x _ _ R e1 fun v B1 H1 y dv => ?_
  exact ⟨v, .ty k.nm, .type (tyN x), .type k.nm, isB k x, rfl, .ty _, dp_ty y.bh dv, kit_ty (kitC k x (dp_nodict dv)), q _ B1 H1 y (.bl _)⟩
/-- isinstance(x, (T, U)) -/
def sIsi2 (k l : Cl) (a : SE) : SE := fun ρ c => (a ρ c).bind fun p => some (.bool (isB k p.1 || isB l p.1), p.2)
/-! ### slices with a step -/
def pickL {α : Type} (xs : List α) (lo hi st : Option Int) : List α := (sliceRange (sliceBounds lo hi st xs.length).1 (sliceBounds lo hi st xs.length).2.1 (sliceBounds lo hi st xs.length).2.2).filterMap fun j => xs[j]?
def sSl3 (a : SE) (l h s : SO) : SE := fun ρ c => (a ρ c).bind fun p => (l ρ p.2).bind fun q => (h ρ q.2).bind fun r => (s ρ r.2).bind fun o => match p.1 with
  | .list xs => if o.1 = some 0 then none else if few (pickL xs q.1 r.1 o.1).length = true then some (.list (pickL xs q.1 r.1 o.1), o.2) else none
  | _ => none
end
end DL
/-! DLj: several names stored at once, lists of one's own among the values; a block's end. -/
namespace DL
open PySem PySem.Spec L2
section
variable {K : PySem.W.Frag}
/-- a value: plain data, or a new list -/
inductive AV where
  | pl (d : D)
  | fr (ds : List D)
inductive AvOk (K : PySem.W.Frag) (ad : Option Addr) (B H0 H : Hp) : List V → List AV → List Addr → Prop
  | nil {fs : List Addr} : AvOk K ad B H0 H [] [] fs
  | pl {v : V} {vs : List V} {d : D} {as : List AV} {fs : List Addr} : Dp K B v d → AvOk K ad B H0 H vs as fs → AvOk K ad B H0 H (v :: vs) (.pl d :: as) fs
  | fr {p : Addr} {us vs : List V} {ds : List D} {as : List AV} {fs : List Addr} : H p = some (.lst us) → B p = none → H0 p = none → ad ≠ some p → DpAll K B us ds → p ∉ fs → AvOk K ad B H0 H vs as (p :: fs) → AvOk K ad B H0 H (.ref p :: vs) (.fr ds :: as) fs
abbrev SV := Rho → Dr → Option (List AV × Dr)
/-- the way of arguments with new lists among them -/
structure FwV (ad : Option Addr) (c' : Dr) (B H B' H' : Hp) : Prop where
  bb : Same B B'
  bh : Same B' H'
  keep : ∀ a o, ad ≠ some a → H a = some o → H' a = some o
  cell : ∀ a, ad = some a → H' a = some (.lst [.int c'.1, .int c'.2])
  fresh : ∀ a o, B' a = some o → B a = none → H a = none
theorem FwV.fw {ad : Option Addr} {c' : Dr} {B H B' H' : Hp} (x : FwV ad c' B H B' H') : Fw ad c' B H B' H' := ⟨x.bb, x.bh, x.keep, x.cell, x.fresh⟩
def ImpV (K : PySem.W.Frag) (t : TA) (f : SV) : Prop := ∀ (ad : Option Addr) (B : Hp) (σ : L2.St) (H : Hp) (ρ : Rho) (c : Dr) (as : List AV) (c' : Dr) (Q : List V → Hp → Prop), Rl K ad B σ H ρ c → f ρ c = some (as, c') →
  (∀ vs B' H', Fw ad c' B H B' H' → (∀ fs, (∀ p ∈ fs, ∃ o, H p = some o) → AvOk K ad B' H H' vs as fs) → Q vs H') → t σ H Q
def sAvNil : SV := fun _ c => some ([], c)
def sAvP (a : SE) (b : SV) : SV := fun ρ c => (a ρ c).bind fun p => (b ρ p.2).bind fun q => some (.pl p.1 :: q.1, q.2)
def sAvF (a : SL) (b : SV) : SV := fun ρ c => (a ρ c).bind fun p => (b ρ p.2).bind fun q => some (.fr p.1 :: q.1, q.2)
theorem AvOk.weak {ad : Option Addr} {B H0 H0' H : Hp} {vs : List V} {as : List AV} {fs : List Addr} (h : AvOk K ad B H0 H vs as fs) (m : ∀ p, ad ≠ some p → H0 p = none → H0' p = none) : AvOk K ad B H0' H vs as fs := by
  induction h with
  | nil => exact .nil
  | pl h1 _ ih => exact .pl h1 ih
  | fr h1 h2 h3 h4 h5 h6 _ ih => exact .fr h1 h2 (m _ h4 h3) h4 h5 h6 ih
theorem imp_avNil : ImpV K tNil sAvNil := fun ad B σ H ρ c as c' Q r h q => by
  cases h
  exact q [] B H r.fwRefl fun fs _ => .nil
theorem imp_avP {t : TE} {u : TA} {a : SE} {b : SV} (ha : ImpE K t a) (hb : ImpV K u b) : ImpV K (tCons t u) (sAvP a b) := fun ad B σ H ρ c as c' Q R h q => by
  obtain ⟨⟨d, c1⟩, e1, e2⟩ := Option.bind_eq_some_iff.mp h
  obtain ⟨⟨bs, c2⟩, e3, e4⟩ := Option.bind_eq_some_iff.mp e2
  cases e4
  refine ha ad B σ H ρ c d c1 _ R e1 fun v B1 H1 x dv => ?_
  refine hb ad B1 σ H1 ρ c1 bs _ _ (R.fw x) e3 fun vs B2 H2 y av => ?_
  refine q _ B2 H2 (R.trans x y) fun fs hfs => .pl (dp_mono y.bb _ _ dv) ?_
  have nad : ∀ p ∈ fs, ∃ o, H1 p = some o := fun p hp => by
    obtain ⟨o, ho⟩ := hfs p hp
    by_cases e : ad = some p
    · exact ⟨_, x.cell p e⟩
    · exact ⟨o, x.keep p o e ho⟩
  exact (av fs nad).weak fun p n h => by
    cases e : H p with
    | none => rfl
    | some o => rw [x.keep p o n e] at h; cases h
theorem imp_avF {t : TE} {u : TA} {a : SL} {b : SV} (ha : ImpL K t a) (hb : ImpV K u b) : ImpV K (tCons t u) (sAvF a b) := fun ad B σ H ρ c as c' Q R h q => by
  obtain ⟨⟨ds, c1⟩, e1, e2⟩ := Option.bind_eq_some_iff.mp h
  obtain ⟨⟨bs, c2⟩, e3, e4⟩ := Option.bind_eq_some_iff.mp e2
  cases e4
  refine ha ad B σ H ρ c ds c1 _ R e1 fun p us B1 H1' H1 x np eH dv => ?_
  subst eH
  have R1 := R.fw x
  have sm : Same H1 (upd H1 p (.lst us)) := same_new np
  have nad : ad ≠ some p := fun e => by rw [x.cell p e] at np; cases np
  have nb1 : B1 p = none := x.bh.free np
  refine hb ad B1 σ _ ρ c1 bs _ _ (R1.up sm) e3 fun vs B2 H2 y av => ?_
  have hp : H2 p = some (.lst us) := y.keep p _ nad upd_same
  have nb2 : B2 p = none := by
    cases h : B2 p with
    | none => rfl
    | some o =>
      have := y.fresh p o h nb1
      rw [upd_same] at this; cases this
  have h0 : H p = none := by
    cases e : H p with
    | none => rfl
    | some o => rw [x.keep p o nad e] at np; cases np
  have f : Fw ad c2 B H B2 H2 := by
    refine ⟨x.bb.trans y.bb, y.bh, fun b o n h => y.keep b o n (sm b o (x.keep b o n h)), y.cell, fun b o h n => ?_⟩
    cases h1 : B1 b with
    | some u => exact x.fresh b u h1 n
    | none =>
      have h2 := y.fresh b o h h1
      cases h3 : H b with
      | none => rfl
      | some u =>
        have nb : ad ≠ some b := fun z => by
          have := (sm b _ (x.cell b z))
          rw [h2] at this; cases this
        have := sm b u (x.keep b u nb h3)
        rw [h2] at this; cases this
  refine q _ B2 H2 f fun fs hfs => .fr hp nb2 h0 nad (dpAll_mono y.bb _ _ dv) (fun hm => by obtain ⟨o, ho⟩ := hfs p hm; rw [h0] at ho; cases ho) ?_
  refine (av (p :: fs) fun b hb => ?_).weak fun b n h => ?_
  · rcases List.mem_cons.mp hb with e | hb
    · rw [e]; exact ⟨_, upd_same⟩
    · obtain ⟨o, ho⟩ := hfs b hb
      by_cases e : ad = some b
      · exact ⟨_, sm b _ (x.cell b e)⟩
      · exact ⟨o, sm b o (x.keep b o e ho)⟩
  · cases e : H b with
    | none => rfl
    | some o => rw [sm b o (x.keep b o n e)] at h; cases h
def slOf : AV → Sl
  | .pl d => .im d
  | .fr ds => .ol ds
def setMany : List Nat → List V → L2.St → L2.St
  | i :: is, v :: vs, σ => setMany is vs (σ.set i (some v))
  | _, _, σ => σ
def setAv : List Nat → List AV → Rho → Rho
  | i :: is, a :: as, ρ => setAv is as (ρ.set i (slOf a))
  | _, _, ρ => ρ
theorem put_many {ad : Option Addr} {B H0 H : Hp} : ∀ {is : List Nat} {vs : List V} {as : List AV} {fs : List Addr} {σ : L2.St} {ρ : Rho} {c : Dr}, Rl K ad B σ H ρ c → AvOk K ad B H0 H vs as fs → (∀ b, Owned ρ σ b → (∃ o, H0 b = some o) ∨ b ∈ fs) → is.length = as.length →
    Rl K ad B (setMany is vs σ) H (setAv is as ρ) c ∧ ∀ b, Owned (setAv is as ρ) (setMany is vs σ) b → Owned ρ σ b ∨ H0 b = none
  | [], [], [], _, _, _, _, R, _, _, _ => ⟨R, fun b h => .inl h⟩
  | i :: is, v :: vs, .pl d :: as, fs, σ, ρ, c, R, h, ho, hl => by
    cases h with
    | pl h1 h2 =>
      have R1 := R.setIm (i := i) h1
      obtain ⟨R2, w⟩ := put_many (is := is) R1 h2 (fun b hb => ho b (owned_set_of R.len rfl hb)) (by simpa using hl)
      exact ⟨R2, fun b hb => (w b hb).elim (fun z => .inl (owned_set_of R.len rfl z)) .inr⟩
  | i :: is, v :: vs, .fr ds :: as, fs, σ, ρ, c, R, h, ho, hl => by
    cases h with
    | @fr p us _ _ _ _ h1 h2 h3 h4 h5 h6 h7 =>
      have no : ¬ Owned ρ σ p := fun hb => by
        rcases ho p hb with ⟨o, z⟩ | z
        · rw [h3] at z; cases z
        · exact h6 z
      obtain ⟨R1, w1⟩ := R.putOwn (i := i) (s := .ol ds) no ⟨p, us, rfl, h1, h2, h4, h5⟩
      obtain ⟨R2, w⟩ := put_many (is := is) R1 h7 (fun b hb => (w1 b hb).elim (fun z => (ho b z).elim .inl fun y => .inr (List.mem_cons_of_mem _ y)) fun e => .inr (by rw [e]; exact List.mem_cons_self)) (by simpa using hl)
      exact ⟨R2, fun b hb => (w b hb).elim (fun z => (w1 b z).elim .inl fun e => .inr (by rw [e]; exact h3)) .inr⟩
  | [], _ :: _, _ :: _, _, _, _, _, _, _, _, hl => by simp at hl
  | _ :: _, [], [], _, _, _, _, _, _, _, hl => by simp at hl
  | _ :: _, _, [], _, _, _, _, _, _, _, hl => by simp at hl
  | [], [], _ :: _, _, _, _, _, _, h, _, _ => by cases h
  | [], _ :: _, [], _, _, _, _, _, h, _, _ => by cases h
  | _ :: _, [], _ :: _, _, _, _, _, _, h, _, _ => by cases h
theorem AvOk.up {ad : Option Addr} {B H0 H H2 : Hp} {vs : List V} {as : List AV} {fs : List Addr} (h : AvOk K ad B H0 H vs as fs) (s2 : Same H H2) : AvOk K ad B H0 H2 vs as fs := by
  induction h with
  | nil => exact .nil
  | pl h1 _ ih => exact .pl h1 ih
  | fr h1 h2 h3 h4 h5 h6 _ ih => exact .fr (s2 _ _ h1) h2 h3 h4 h5 h6 ih
def sMany (is : List Nat) (f : SV) : SS := fun ρ c => (f ρ c).bind fun p => if is.length = p.1.length then some (.nx, setAv is p.1 ρ, p.2) else none
theorem avOk_len {ad : Option Addr} {B H0 H : Hp} {vs : List V} {as : List AV} {fs : List Addr} (h : AvOk K ad B H0 H vs as fs) : vs.length = as.length := by
  induction h with
  | nil => rfl
  | pl _ _ ih => rw [List.length_cons, List.length_cons, ih]
  | fr _ _ _ _ _ _ _ ih => rw [List.length_cons, List.length_cons, ih]
theorem many_core {t : TA} {f : SV} {is : List Nat} (h : ImpV K t f) {ad : Option Addr} {B : Hp} {σ : L2.St} {H : Hp} {ρ : Rho} {c : Dr} {r : Fl × Rho × Dr} {D : Ends} {Q : List V → Hp → Prop} (R : Rl K ad B σ H ρ c) (e : sMany is f ρ c = some r) (q : Post K D ad B σ H ρ r)
    (hQ : ∀ vs H', vs.length = is.length → (∀ H2, Same H' H2 → D.nx (setMany is vs σ) H2) → Q vs H') : t σ H Q := by
  obtain ⟨⟨as, c1⟩, e1, e2⟩ := Option.bind_eq_some_iff.mp e
  have e2' : (if is.length = as.length then some (Fl.nx, setAv is as ρ, c1) else none) = some r := e2
  split at e2'
  · rename_i hl
    cases e2'
    refine h ad B σ H ρ c as c1 _ R e1 fun vs B' H' x av => hQ vs H' (by rw [avOk_len (av [] (fun _ h => by cases h)), hl]) fun H2 s2 => ?_
    have R1 := (R.fw x).up s2
    have av1 : AvOk K ad B' H H2 vs as [] := (av [] (fun _ h => by cases h)).up s2
    obtain ⟨R2, w⟩ := put_many R1 av1 (fun b hb => by
      obtain ⟨_, _, o, z⟩ := R.ownB hb
      exact .inl ⟨o, z⟩) hl
    exact q B' _ H2 R2 ⟨x.bb, fun b o n h _ => s2 b o (x.keep b o n h), fun b o h n => .inl (x.fresh b o h n), fun b hb => w b hb⟩
  · cases e2'
theorem imp_many2 {i j : Nat} {t : TA} {f : SV} (h : ImpV K t f) : ImpS K (tPar i j t) (sMany [i, j] f) := fun ad B σ H ρ c r D R e q =>
  many_core h R e q fun vs H' hl hn => by
    cases vs with
    | nil => simp at hl
    | cons v vs =>
      cases vs with
      | nil => simp at hl
      | cons w vs =>
        cases vs with
        | nil => exact ⟨v, w, rfl, hn H' (Same.refl _)⟩
        | cons _ _ => simp at hl
/-- behind a block some slots are not known any more -/
def sThen (is : List Nat) (f : SS) : SS := fun ρ c => (f ρ c).bind fun r => match r with
  | (.rt d, ρ', c') => some (.rt d, ρ', c')
  | (fl, ρ', c') => some (fl, unset is ρ', c')
theorem imp_then {t : TS} {f : SS} (is : List Nat) (h : ImpS K t f) : ImpS K t (sThen is f) := fun ad B σ H ρ c r D R e q => by
  obtain ⟨⟨fl, ρ', c'⟩, e1, e2⟩ := Option.bind_eq_some_iff.mp e
  refine h ad B σ H ρ c _ D R e1 ?_
  cases fl with
  | nx =>
    cases e2
    exact fun B' σ' H' R' y => by
      obtain ⟨R2, z⟩ := R'.forgets is
      exact q B' σ' H' R2 (FwS.trans R R' y z)
  | bk =>
    cases e2
    exact fun B' σ' H' R' y => by
      obtain ⟨R2, z⟩ := R'.forgets is
      exact q B' σ' H' R2 (FwS.trans R R' y z)
  | ct =>
    cases e2
    exact fun B' σ' H' R' y => by
      obtain ⟨R2, z⟩ := R'.forgets is
      exact q B' σ' H' R2 (FwS.trans R R' y z)
  | rt d => cases e2; exact q
end
end DL
/-! DLk: the draws' cell; what a law's own def promises. -/
namespace DL
open PySem PySem.Spec L2
section
variable {K : PySem.W.Frag}
/-- draws[k] -/
def sDrIx (i : Nat) (k : SE) : SE := fun ρ c => match ρ[i]? with
  | some .dr => (k ρ c).bind fun q => match q.1 with
    | .int j => if j = 0 then some (.int q.2.1, q.2) else if j = 1 then some (.int q.2.2, q.2) else none
    | _ => none
  | _ => none
theorem imp_drIx {i : Nat} {u : TE} {k : SE} (hk : ImpE K u k) : ImpE K (tOp (rIx K) (tVar i) u) (sDrIx i k) := fun ad B σ H ρ c d c' Q R e q => by
  unfold sDrIx at e
  split at e
  · rename_i e0
    obtain ⟨⟨kd, c1⟩, e1, e2⟩ := Option.bind_eq_some_iff.mp e
    cases kd with
    | int j =>
      obtain ⟨a, rfl, g1⟩ := R.slot i _ e0
      have e2' : (if j = 0 then some (PyData.int c1.1, c1) else if j = 1 then some (PyData.int c1.2, c1) else none) = some (d, c') := e2
      refine ⟨.ref a, g1, hk _ B σ H ρ c (.int j) _ _ R e1 fun w B1 H1 x dw => ?_⟩
      have hp : H1 a = some (.lst [.int c1.1, .int c1.2]) := x.cell a rfl
      split at e2'
      · rename_i hj
        cases e2'
        subst hj
        exact .inl ⟨a, _, 0, .int c'.1, rfl, dp_int dw, SqL.of hp, rfl, q _ B1 H1 x (.int _)⟩
      · split at e2'
        · rename_i hj
          cases e2'
          subst hj
          exact .inl ⟨a, _, 1, .int c'.2, rfl, dp_int dw, SqL.of hp, rfl, q _ B1 H1 x (.int _)⟩
        · cases e2'
    | _ => cases e2
  · cases e
/-- draws[k] = e -/
def sDrSet (i : Nat) (k a : SE) : SS := fun ρ c => match ρ[i]? with
  | some .dr => (a ρ c).bind fun p => (k ρ p.2).bind fun q => match q.1, p.1 with
    | .int j, .int x => if j = 0 then some (.nx, ρ, (x, q.2.2)) else if j = 1 then some (.nx, ρ, (q.2.1, x)) else none
    | _, _ => none
  | _ => none
theorem Rl.cellSet {B H : Hp} {σ : L2.St} {ρ : Rho} {c c' : Dr} {a : Addr} (R : Rl K (some a) B σ H ρ c) : Rl K (some a) B σ (upd H a (.lst [.int c'.1, .int c'.2])) ρ c' ∧ FwS (some a) B σ H ρ B σ (upd H a (.lst [.int c'.1, .int c'.2])) ρ := by
  have nb : B a = none := R.cfree a rfl
  have ne : ∀ b : Addr, some a ≠ some b → upd H a (.lst [.int c'.1, .int c'.2]) b = H b := fun b h => upd_ne fun z => h (by rw [z])
  refine ⟨⟨fun b o h => ?_, fun b h => (by cases h; exact upd_same), R.cfree, R.len, fun i t e => ?_, R.sep⟩, ⟨Same.refl B, fun b o n h _ => by rw [ne b n]; exact h, fun b o h n => (by rw [h] at n; cases n), fun b h => .inl h⟩⟩
  · rw [ne b (fun z => by cases z; rw [nb] at h; cases h)]; exact R.sub b o h
  · have q := R.slot i t e
    cases t with
    | un => trivial
    | im d => exact q
    | ol xs => obtain ⟨b, vs, e1, e2, e3, e4, e5⟩ := q; exact ⟨b, vs, e1, by rw [ne b e4]; exact e2, e3, e4, e5⟩
    | od xs => obtain ⟨b, vs, e1, e2, e3, e4, e5⟩ := q; exact ⟨b, vs, e1, by rw [ne b e4]; exact e2, e3, e4, e5⟩
    | fd xs => obtain ⟨b, w, vs, e1, e2, e3, e4, e5⟩ := q; exact ⟨b, w, vs, e1, by rw [ne b e4]; exact e2, e3, e4, e5⟩
    | op v => exact q
    | dr => exact q
theorem imp_drSet {i : Nat} {t u : TE} {k a : SE} (hk : ImpE K u k) (h : ImpE K t a) : ImpS K (tAsg t (gSub (tVar i) u rSetL)) (sDrSet i k a) := fun ad B σ H ρ c r D R e q => by
  unfold sDrSet at e
  split at e
  · rename_i e0
    obtain ⟨⟨d, c1⟩, e1, e2⟩ := Option.bind_eq_some_iff.mp e
    obtain ⟨⟨kd, c2⟩, e3, e4⟩ := Option.bind_eq_some_iff.mp e2
    obtain ⟨p, rfl, g1⟩ := R.slot i _ e0
    cases kd with
    | int j =>
      cases d with
      | int x =>
        have e4' : (if j = 0 then some (Fl.nx, ρ, (x, c2.2)) else if j = 1 then some (Fl.nx, ρ, (c2.1, x)) else none) = some r := e4
        refine h _ B σ H ρ c (.int x) c1 _ R e1 fun v B1 H1 y dv => ?_
        have R1 := R.fw y
        refine ⟨.ref p, g1, hk _ B1 σ H1 ρ c1 (.int j) c2 _ R1 e3 fun w B2 H2 z dw => ?_⟩
        have R2 := R1.fw z
        have hp : H2 p = some (.lst [.int c2.1, .int c2.2]) := z.cell p rfl
        have f02 := FwS.trans R R1 (FwS.ofFw R y) (FwS.ofFw R1 z)
        split at e4'
        · rename_i hj
          cases e4'
          subst hj
          rw [dp_int dv]
          obtain ⟨R3, w3⟩ := R2.cellSet (c' := (x, c2.2))
          exact ⟨p, _, 0, 0, rfl, dp_int dw, hp, rfl, q B2 σ _ R3 (FwS.trans R R2 f02 w3)⟩
        · split at e4'
          · rename_i hj
            cases e4'
            subst hj
            rw [dp_int dv]
            obtain ⟨R3, w3⟩ := R2.cellSet (c' := (c2.1, x))
            exact ⟨p, _, 1, 1, rfl, dp_int dw, hp, rfl, q B2 σ _ R3 (FwS.trans R R2 f02 w3)⟩
          · cases e4'
      | _ => cases e4
    | _ => cases e4
  · cases e

/-! ### a law's text -/
def spLaw (K : PySem.W.Frag) : Sp := fun vs H Q _ => ∃ (a : Addr) (ns : List Int), vs = [.ref a] ∧ SqL K H a (ns.map V.int) ∧ ns.length ≤ 63 ∧ ∀ H', Q (.bl true) H'
/-- _law_draws: a new cell -/
def spCell (K : PySem.W.Frag) (F : List Int → Int → Option Dr) : Sp := fun vs H Q _ => ∃ (a : Addr) (ns : List Int) (k : Int) (c : Dr), vs = [.ref a, .int k] ∧ SqL K H a (ns.map V.int) ∧ F ns k = some c ∧
  ∀ p H', Same H H' → H p = none → H' p = some (.lst [.int c.1, .int c.2]) → Q (.ref p) H'
theorem sqL_keep {H H' : Hp} {a : Addr} {ns : List Int} (h : SqL K H a (ns.map V.int)) (k : ∀ o, H a = some o → H' a = some o) : SqL K H' a (ns.map V.int) := by
  rcases h with (h | ⟨o, h⟩) | h
  · exact .inl (.inl (k _ h))
  · exact .inl (.inr ⟨o, k _ h⟩)
  · exact .inr h
def emp : Hp := fun _ => none
theorem same_emp (H : Hp) : Same emp H := fun _ _ h => by cases h
section
variable {P : Program} {w : World} {mg : Str → Option Value} {base : Heap} {st : Stmt} {f : Addr} {fd : FuncData} {N : List Str} {k n : Nat} {M : Int}
abbrev rLenS (K : PySem.W.Frag) : List V → Hp → VK → Prop := fun xs H Q => ∃ p ys, xs = [.ref p] ∧ (SqL K H p ys ∨ SqT K H p ys) ∧ Q (.int ys.length) H
end
end
end DL
/-! DLl: the cell a law draws from, as its script tells it; range of three; keywords alone. -/
namespace DL
open PySem PySem.Spec L2
def cell0 (ns : List Int) (k : Nat) : Int :=
  if k < ns.length then (ns.getD k 0) % (10 ^ 300) else if 0 < ns.length then (ns.getD (k % ns.length) 0) % 10 ^ 15 + 15485863 * (k : Int) else 15485863 * (k : Int)
def cellF (ns : List Int) (k : Int) : Option Dr :=
  if 0 ≤ k ∧ k < 1000 ∧ ns.length ≤ 63 then
    some (if 10 ^ 18 ≤ cell0 ns k.toNat then cell0 ns k.toNat else 0, 1 + (cell0 ns k.toNat * 69621 + 86028121 * (k + 1)) % 2147483646)
  else none
/-- a cell that the law may draw from -/
def OkDr (c : Dr) : Prop := 0 ≤ c.1 ∧ 0 ≤ c.2 ∧ c.2 < 2147483647 ∧ c.1 < 10 ^ 300
theorem cell0_lt (ns : List Int) (k : Nat) (hk : k < 1000) : 0 ≤ cell0 ns k ∧ cell0 ns k < 10 ^ 300 := by
  unfold cell0
  split
  · omega
  · split
    · omega
    · omega
theorem cellF_ok {ns : List Int} {i : Nat} (h1 : ns.length ≤ 63) (h2 : i < 1000) : ∃ c, cellF ns i = some c ∧ OkDr c := by
  unfold cellF
  rw [if_pos ⟨by omega, by omega, h1⟩]
  refine ⟨_, rfl, ?_⟩
  rw [Int.toNat_natCast]
  have := cell0_lt ns i h2
  generalize cell0 ns i = z at *
  unfold OkDr
  dsimp only
  split <;> omega
section
variable {K : PySem.W.Frag}
/-! ### range(i, j, c) -/
def stpL (lo c : Int) (n : Nat) : List D := (List.range n).map fun i => .int (lo + (i : Nat) * c)
def okR3 (i j c : Int) : Bool := decide (i.natAbs ≤ 1000000 ∧ j.natAbs ≤ 1000000 ∧ 0 < c ∧ c.natAbs ≤ 1000000)
def sR3 (a : SA) : SI := fun ρ c => (a ρ c).bind fun p => match p.1 with
  | [.int i, .int j, .int e] => if okR3 i j e = true then some (stpL i e (Builtin.Range.rangeSize i j e).toNat, p.2) else none
  | _ => none
end
section
variable {X : Cx} {CX : CXT} {k : Nat} {f C : Addr} {fd : FuncData} {ps ks : List Str} {sp : Sp} {E : XK} {x m : Str} {p pos apos kpos : Pos} {e o : Expr} {es : List Expr} {kws : List Keyword} {te ta : TE} {t tk : TA} {nm : Option Str}
variable {g : List Value → List Value → List Value} {gV : List V → List V → List V}
end

/-! ### keywords: the parameters' order -/
end DL
/-! DLm: _law_draws read by hand. -/
namespace DL
open PySem PySem.Spec L2
section
variable {K : PySem.W.Frag} {σ : L2.St} {H : Hp}
/-- evaluates to v, and changes nothing -/
def Ev (t : TE) (σ : L2.St) (H : Hp) (v : V) : Prop := ∀ H1, Same H H1 → ∀ Q : VK, (∀ H2, Same H1 H2 → Q v H2) → t σ H1 Q
theorem ev_c {v : V} : Ev (tC v) σ H v := fun H1 _ Q q => q H1 (Same.refl H1)
theorem ev_v {i : Nat} {v : V} (h : σ[i]? = some (some v)) : Ev (tVar i) σ H v := fun H1 _ Q q => ⟨v, h, q H1 (Same.refl H1)⟩
theorem Ev.up {t : TE} {v : V} {H' : Hp} (h : Ev t σ H v) (s : Same H H') : Ev t σ H' v := fun H1 s1 Q q => h H1 (s.trans s1) Q q
theorem ev_op {r : R2} {g : D → D → Option D} (h : OpD K r g) {ta tb : TE} {a b : Int} {v : V} {z : D} (ha : Ev ta σ H (.int a)) (hb : Ev tb σ H (.int b)) (e : g (.int a) (.int b) = some z) (hz : ∀ B u, Dp K B u z → u = v) : Ev (tOp r ta tb) σ H v := fun H1 s Q q => by
  refine ha H1 s _ fun H2 s2 => ?_
  refine hb H2 (s.trans s2) _ fun H3 s3 => ?_
  exact h emp H3 _ _ _ _ z _ (same_emp H3) (.int a) (.int b) e fun u B' H' gr d => by
    rw [hz _ _ d]
    exact q H' (s2.trans (s3.trans gr.hh))
theorem ev_opI {r : R2} {g : D → D → Option D} (h : OpD K r g) {ta tb : TE} {a b z : Int} (ha : Ev ta σ H (.int a)) (hb : Ev tb σ H (.int b)) (e : g (.int a) (.int b) = some (.int z)) : Ev (tOp r ta tb) σ H (.int z) :=
  ev_op h ha hb e fun _ _ d => dp_int d
theorem ev_opB {r : R2} {g : D → D → Option D} (h : OpD K r g) {ta tb : TE} {a b : Int} {z : Bool} (ha : Ev ta σ H (.int a)) (hb : Ev tb σ H (.int b)) (e : g (.int a) (.int b) = some (.bool z)) : Ev (tOp r ta tb) σ H (.bl z) :=
  ev_op h ha hb e fun _ _ d => dp_bool d
theorem same_keep {H H' : Hp} (s : Same H H') {a : Addr} : ∀ o, H a = some o → H' a = some o := fun o h => s a o h
theorem ev_len {a : Addr} {ns : List Int} (h0 : σ[0]? = some (some (.ref a))) (hS : SqL K H a (ns.map V.int)) : Ev (tCB (rLenS K) (tCons (tVar 0) tNil)) σ H (.int ns.length) := fun H1 s Q q => by
  refine ⟨.ref a, h0, a, ns.map V.int, rfl, .inl (sqL_keep hS (same_keep s)), ?_⟩
  rw [List.length_map]
  exact q H1 (Same.refl H1)
theorem ev_ix {a : Addr} {ns : List Int} {u : TE} {k : Nat} (h0 : σ[0]? = some (some (.ref a))) (hS : SqL K H a (ns.map V.int)) (hu : Ev u σ H (.int (k : Int))) (hk : k < ns.length) : Ev (tOp (rIx K) (tVar 0) u) σ H (.int (ns.getD k 0)) := fun H1 s Q q => by
  refine ⟨.ref a, h0, hu H1 s _ fun H2 s2 => ?_⟩
  refine .inl ⟨a, ns.map V.int, (k : Int), .int (ns.getD k 0), rfl, rfl, sqL_keep hS (same_keep (s.trans s2)), ?_, q H2 s2⟩
  refine atI_nat ?_
  rw [List.getElem?_map, List.getElem?_eq_getElem hk]
  simp [List.getD, List.getElem?_eq_getElem hk]
theorem ev_intB {t : TE} {b : Bool} (h : Ev t σ H (.bl b)) : Ev (tCB (fun xs H Q => (∃ i, xs = [.int i] ∧ Q (.int i) H) ∨ ∃ k, xs = [.bl k] ∧ Q (.int (if k then 1 else 0)) H) (tCons t tNil)) σ H (.int (if b then 1 else 0)) := fun H1 s Q q => by
  refine h H1 s _ fun H2 s2 => ?_
  exact .inr ⟨b, rfl, q H2 s2⟩
theorem mul_big {a b : Int} (ha : -1073741824 < a) (ha' : a < 1073741824) : mulD (.int a) (.int b) = some (.int (a * b)) := by
  show (if midI a = true ∨ midI b = true ∨ a.natAbs.log2 + b.natAbs.log2 < 1000000 then some (PyData.int (a * b)) else none) = _
  rw [if_pos (.inl (decide_eq_true (by show a.natAbs < 2 ^ 64; omega)))]
theorem log2_le_of_lt {n k : Nat} (h : n < 2 ^ (k + 1)) : n.log2 ≤ k := by
  by_cases hn : n = 0
  · subst hn; simp
  · have := (Nat.log2_lt hn).mpr h
    omega
theorem mul_wide {a b : Int} (ha : a.natAbs < 10 ^ 308) (hb : b.natAbs < 10 ^ 308) : mulD (.int a) (.int b) = some (.int (a * b)) := by
  show (if midI a = true ∨ midI b = true ∨ a.natAbs.log2 + b.natAbs.log2 < 1000000 then some (PyData.int (a * b)) else none) = _
  have h1 := log2_le_of_lt (k := 1100) (Nat.lt_trans ha (by decide +kernel))
  have h2 := log2_le_of_lt (k := 1100) (Nat.lt_trans hb (by decide +kernel))
  rw [if_pos (.inr (.inr (by omega)))]

abbrev tPow (a b : Int) : TE := tOp (rI CPow fun i j => .int (i ^ j.toNat)) (tC (.int a)) (tC (.int b))
abbrev tMul (K : PySem.W.Frag) : TE → TE → TE := tOp (rMulA K)
abbrev tAdd (K : PySem.W.Frag) : TE → TE → TE := tOp (rAddA K)
abbrev tMod : TE → TE → TE := tOp (rI (fun _ j => 0 < j) fun i j => .int (i % j))
abbrev tLen0 (K : PySem.W.Frag) : TE := tCB (rLenS K) (tCons (tVar 0) tNil)
def drawsT (K : PySem.W.Frag) : TS := tSeq (tAsg (tMul K (tC (.int 15485863)) (tVar 1)) (gName 2))
  (tSeq (tIfS (tTest (tOp (rI0 fun i j => .bl (decide (i < j))) (tVar 1) (tLen0 K)))
    (tAsg (tMod (tOp (rIx K) (tVar 0) (tVar 1)) (tMul K (tMul K (tMul K (tMul K (tPow 10 60) (tPow 10 60)) (tPow 10 60)) (tPow 10 60)) (tPow 10 60))) (gName 2))
    (tIfS (tTest (tOp (rI0 fun i j => .bl (decide (j < i))) (tLen0 K) (tC (.int 0))))
      (tAsg (tAdd K (tMod (tOp (rIx K) (tVar 0) (tMod (tVar 1) (tLen0 K))) (tPow 10 15)) (tMul K (tC (.int 15485863)) (tVar 1))) (gName 2)) tNext))
    (tRet (tLst (tCons (tMul K (tVar 2) (tCB (fun xs H Q => (∃ i, xs = [.int i] ∧ Q (.int i) H) ∨ ∃ k, xs = [.bl k] ∧ Q (.int (if k then 1 else 0)) H) (tCons (tOp (rI0 fun i j => .bl (decide (j ≤ i))) (tVar 2) (tPow 10 18)) tNil)))
      (tCons (tAdd K (tC (.int 1)) (tMod (tAdd K (tMul K (tVar 2) (tC (.int 69621))) (tMul K (tC (.int 86028121)) (tAdd K (tVar 1) (tC (.int 1))))) (tC (.int 2147483646)))) tNil)))))
theorem ev_pow (K : PySem.W.Frag) {a b z : Int} (e : powD (.int a) (.int b) = some (.int z)) : Ev (tPow a b) σ H (.int z) := ev_opI (d_pow (K := K)) ev_c ev_c e
theorem ev_asg {t : TE} {i : Nat} {v : V} {D : Ends} (h : Ev t σ H v) (q : ∀ H', Same H H' → D.nx (σ.set i (some v)) H') : tAsg t (gName i) D σ H := h H (Same.refl H) _ fun H2 s => q H2 s
theorem ev_if {t : TE} {b : Bool} {u v : TS} {D : Ends} (h : Ev t σ H (.bl b)) (q : ∀ H', Same H H' → if b = true then u D σ H' else v D σ H') : tIfS (tTest t) u v D σ H := h H (Same.refl H) _ fun H2 s => ⟨b, rfl, q H2 s⟩
theorem draws_tail {k z : Int} {D : Ends} (hk : 0 ≤ k ∧ k < 1000) (hz : 0 ≤ z ∧ z < 10 ^ 300) (h1 : σ[1]? = some (some (.int k))) (h2 : σ[2]? = some (some (.int z)))
    (q : ∀ p H', Same H H' → H p = none → H' p = some (.lst [.int (if 10 ^ 18 ≤ z then z else 0), .int (1 + (z * 69621 + 86028121 * (k + 1)) % 2147483646)]) → D.rt (.ref p) H') :
    tRet (tLst (tCons (tMul K (tVar 2) (tCB (fun xs H Q => (∃ i, xs = [.int i] ∧ Q (.int i) H) ∨ ∃ k, xs = [.bl k] ∧ Q (.int (if k then 1 else 0)) H) (tCons (tOp (rI0 fun i j => .bl (decide (j ≤ i))) (tVar 2) (tPow 10 18)) tNil)))
      (tCons (tAdd K (tC (.int 1)) (tMod (tAdd K (tMul K (tVar 2) (tC (.int 69621))) (tMul K (tC (.int 86028121)) (tAdd K (tVar 1) (tC (.int 1))))) (tC (.int 2147483646)))) tNil))) D σ H := by
  have e1 : Ev (tMul K (tVar 2) (tCB (fun xs H Q => (∃ i, xs = [.int i] ∧ Q (.int i) H) ∨ ∃ k, xs = [.bl k] ∧ Q (.int (if k then 1 else 0)) H) (tCons (tOp (rI0 fun i j => .bl (decide (j ≤ i))) (tVar 2) (tPow 10 18)) tNil))) σ H (.int (if 10 ^ 18 ≤ z then z else 0)) := by
    have e0 : Ev (tOp (rI0 fun i j => .bl (decide (j ≤ i))) (tVar 2) (tPow 10 18)) σ H (.bl (decide ((10 : Int) ^ 18 ≤ z))) := ev_opB (d_ge (K := K)) (ev_v h2) (ev_pow K rfl) rfl
    refine ev_opI d_mul (ev_v h2) (ev_intB e0) ?_
    rw [mul_wide (by omega) (by split <;> decide)]
    by_cases w : (10 : Int) ^ 18 ≤ z
    · rw [if_pos (decide_eq_true w), if_pos w, Int.mul_one]
    · rw [if_neg (by rw [decide_eq_true_eq]; exact w), if_neg w, Int.mul_zero]
  have e2 : Ev (tAdd K (tC (.int 1)) (tMod (tAdd K (tMul K (tVar 2) (tC (.int 69621))) (tMul K (tC (.int 86028121)) (tAdd K (tVar 1) (tC (.int 1))))) (tC (.int 2147483646)))) σ H (.int (1 + (z * 69621 + 86028121 * (k + 1)) % 2147483646)) :=
    ev_opI d_add ev_c (ev_opI (d_mod (K := K)) (ev_opI d_add (ev_opI d_mul (ev_v h2) ev_c (mul_wide (by omega) (by decide))) (ev_opI d_mul ev_c (ev_opI d_add (ev_v h1) ev_c rfl) (mul_big (by decide) (by decide))) rfl) ev_c rfl) rfl
  refine e1 H (Same.refl H) _ fun H1 s1 => ?_
  refine e2 H1 s1 _ fun H2 s2 => ?_
  refine ⟨by rw [sizeLine_eq]; show 2 ≤ _; decide, fun p np => ?_⟩
  have s12 := s1.trans s2
  exact q p _ (s12.trans (same_new np)) (s12.free np) upd_same
theorem draws_read {N : List Str} {a : Addr} {ns : List Int} {k : Int} {c : Dr} {D : Ends} (hN : N.length = 3) (hS : SqL K H a (ns.map V.int)) (hF : cellF ns k = some c)
    (q : ∀ p H', Same H H' → H p = none → H' p = some (.lst [.int c.1, .int c.2]) → D.rt (.ref p) H') : drawsT K D (L2.start N [.ref a, .int k]) H := by
  unfold cellF at hF
  split at hF
  · rename_i hk
    cases hF
    obtain ⟨k, rfl⟩ : ∃ j : Nat, k = (j : Int) := ⟨k.toNat, by omega⟩
    rw [Int.toNat_natCast] at q
    have g0 : (L2.start N [V.ref a, .int k])[0]? = some (some (.ref a)) := start_get rfl
    have g1 : (L2.start N [V.ref a, .int k])[1]? = some (some (.int k)) := start_get rfl
    have gl : (L2.start N [V.ref a, .int k]).length = 3 := by
      unfold L2.start
      rw [List.length_append, List.length_map, List.length_replicate, hN]
      rfl
    generalize L2.start N [V.ref a, .int k] = σ at g0 g1 gl
    refine ev_asg (ev_opI d_mul ev_c (ev_v g1) (mul_big (by decide) (by decide))) fun H1 s1 => ?_
    have st : ∀ v : V, (σ.set 2 (some v))[0]? = some (some (.ref a)) ∧ (σ.set 2 (some v))[1]? = some (some (.int k)) ∧ (σ.set 2 (some v))[2]? = some (some v) ∧ (σ.set 2 (some v)).set 2 = σ.set 2 := fun v =>
      ⟨by rw [List.getElem?_set_ne (by decide)]; exact g0, by rw [List.getElem?_set_ne (by decide)]; exact g1, List.getElem?_set_self (by rw [gl]; decide), by funext o; rw [List.set_set]⟩
    obtain ⟨h0, h1, h2, h3⟩ := st (.int (15485863 * k))
    have hS1 := sqL_keep hS (same_keep s1)
    have ci := cell0_lt ns k (by omega)
    refine ev_if (ev_opB (d_lt (K := K)) (ev_v h1) (ev_len h0 hS1) rfl) fun H2 s2 => ?_
    have hS2 := sqL_keep hS1 (same_keep s2)
    by_cases c1 : k < ns.length
    · rw [if_pos (decide_eq_true (by omega))]
      have ez : cell0 ns k = ns.getD k 0 % 10 ^ 300 := by unfold cell0; rw [if_pos c1]
      have p1 : Ev (tPow 10 60) (σ.set 2 (some (.int (15485863 * (k : Int))))) H2 (.int (10 ^ 60)) := ev_pow K rfl
      have p2 := ev_opI (d_mul (K := K)) p1 p1 (z := 10 ^ 120) (by rw [mul_wide (by decide +kernel) (by decide +kernel)]; congr 2)
      have p3 := ev_opI (d_mul (K := K)) p2 p1 (z := 10 ^ 180) (by rw [mul_wide (by decide +kernel) (by decide +kernel)]; congr 2)
      have p4 := ev_opI (d_mul (K := K)) p3 p1 (z := 10 ^ 240) (by rw [mul_wide (by decide +kernel) (by decide +kernel)]; congr 2)
      have p5 := ev_opI (d_mul (K := K)) p4 p1 (z := 10 ^ 300) (by rw [mul_wide (by decide +kernel) (by decide +kernel)]; congr 2)
      refine ev_asg (ev_opI (d_mod (K := K)) (ev_ix h0 hS2 (ev_v h1) c1) p5 (z := cell0 ns k) ?_) fun H3 s3 => ?_
      · rw [ez]
        show (if (0 : Int) < 10 ^ 300 then some (PyData.int (ns.getD k 0 % 10 ^ 300)) else none) = _
        rw [if_pos (by decide +kernel)]
      · rw [List.set_set]
        obtain ⟨_, z1, z2, _⟩ := st (.int (cell0 ns k))
        exact draws_tail ⟨by omega, by omega⟩ ci z1 z2 fun p H' s4 np hp => q p H' (s1.trans (s2.trans (s3.trans s4))) ((s1.trans (s2.trans s3)).free np) hp
    · rw [if_neg (by rw [decide_eq_true_eq]; omega)]
      refine ev_if (ev_opB (d_gt (K := K)) (ev_len h0 hS2) ev_c rfl) fun H3 s3 => ?_
      have hS3 := sqL_keep hS2 (same_keep s3)
      by_cases c2 : 0 < ns.length
      · rw [if_pos (decide_eq_true (by omega))]
        have ez : cell0 ns k = ns.getD (k % ns.length) 0 % 10 ^ 15 + 15485863 * (k : Int) := by unfold cell0; rw [if_neg c1, if_pos c2]
        have em : modD (.int (k : Int)) (.int (ns.length : Int)) = some (.int ((k % ns.length : Nat) : Int)) := by
          show (if (0 : Int) < ns.length then some (PyData.int ((k : Int) % (ns.length : Int))) else none) = _
          rw [if_pos (by omega)]
          rfl
        refine ev_asg (ev_opI d_add (ev_opI (d_mod (K := K)) (ev_ix h0 hS3 (ev_opI (d_mod (K := K)) (ev_v h1) (ev_len h0 hS3) em) (Nat.mod_lt _ c2)) (ev_pow K rfl) rfl) (ev_opI d_mul ev_c (ev_v h1) (mul_big (by decide) (by decide))) (z := cell0 ns k) (by rw [ez]; rfl)) fun H4 s4 => ?_
        rw [List.set_set]
        obtain ⟨_, z1, z2, _⟩ := st (.int (cell0 ns k))
        exact draws_tail ⟨by omega, by omega⟩ ci z1 z2 fun p H' s5 np hp => q p H' (s1.trans (s2.trans (s3.trans (s4.trans s5)))) ((s1.trans (s2.trans (s3.trans s4))).free np) hp
      · rw [if_neg (by rw [decide_eq_true_eq]; omega)]
        have ez : cell0 ns k = 15485863 * (k : Int) := by unfold cell0; rw [if_neg c1, if_neg c2]
        rw [ez] at q ci
        exact draws_tail ⟨by omega, by omega⟩ ci h1 h2 fun p H' s5 np hp => q p H' (s1.trans (s2.trans (s3.trans s5))) ((s1.trans (s2.trans s3)).free np) hp
  · cases hF
end
end DL
/-! DLn: the rules that name the fragment, with the fragment given. -/
namespace DL
open PySem PySem.Spec L2
section
variable {X : Cx} {K : PySem.W.Frag}
theorem op_addK (h : X.K = K) : OpR X (binaryOp .Add) (rAddA K) := by subst h; exact op_addA
theorem op_mulK (h : X.K = K) : OpR X (binaryOp .Mult) (rMulA K) := by subst h; exact op_mulA
theorem op_eqK (h : X.K = K) (hu : X.A.units + 64 < cLine) : OpR X (compareOp .Eq) (rEqD K) := by subst h; exact op_eqD hu
theorem op_neK (h : X.K = K) (hu : X.A.units + 64 < cLine) : OpR X (compareOp .NotEq) (rNeD K) := by subst h; exact op_neD hu
theorem ix_K (h : X.K = K) : IxR X (rIx K) := by subst h; exact ix_seq
theorem call_maxK (h : X.K = K) (hc : X.calm = true) : CallR X (.builtin "max") (rMaxA K) := by subst h; exact call_maxA hc
theorem call_minK (h : X.K = K) (hc : X.calm = true) : CallR X (.builtin "min") (rMinA K) := by subst h; exact call_minA hc
theorem cr_allK (h : X.K = K) (hc : X.calm = true) : CallR X (.builtin "all") (rAll K) := by subst h; exact cr_all hc
theorem call_lenK (h : X.K = K) : CallR X (.builtin "len") (rLenS K) := by subst h; exact call_len_seq
theorem call_listK (h : X.K = K) : CallR X (.type "list") (fun xs H Q => ∃ p ys, xs = [.ref p] ∧ (SqL K H p ys ∨ SqT K H p ys) ∧ ∀ l, H l = none → Q (.ref l) (upd H l (.lst ys))) := by subst h; exact call_list_of
theorem call_tupleK (h : X.K = K) : CallR X (.type "tuple") (fun xs H Q => ∃ p ys, xs = [.ref p] ∧ ((SqL K H p ys ∧ ∀ l, H l = none → Q (.ref l) (upd H l (.tup ys))) ∨ (SqT K H p ys ∧ Q (.ref p) H))) := by subst h; exact call_tuple_of
theorem sl_K (h : X.K = K) : SlR X (rSlX K) := by subst h; exact sl_any
end
end DL
/-! DLo: order of tuples of ints. -/
namespace DL
open PySem PySem.Spec L2 PyProof.Rows
end DL
/-! DLp: t[::-1] of a tuple. -/
namespace DL
open PySem PySem.Spec L2 PyProof.Rows HT
section
variable {prog : Program} {w : World} {A : Around} {E : Value → Shared → Prop} {s : Shared}
theorem sliceApplied_rev {sl : Addr} {vs : Value} {n : Nat} {Q : Int × Int × Nat → Shared → Prop} (hs : s.heap.IsSliceOf sl .none .none vs) (ps : IsPart vs (some (-1)))
    (h : Q ((n : Int) - 1, -1, n) s) : wpAny (model prog w) A (Builtin.Slice.sliceApplied (.ref sl) (pure (n : Int))) Q E s := by
  obtain ⟨os, hos, hcs, hds⟩ := id hs
  unfold Builtin.Slice.sliceApplied Builtin.Slice.sliceFields
  refine wpAny_bind (wpAny_bind (wpAny_field hos hds (x := .none) rfl (wpAny_bind (wpAny_field hos hds (x := .none) rfl (wpAny_bind (wpAny_field hos hds (x := vs) rfl (wpAny_pure ?_)))))))
  refine wpAny_bind (slicePart_ ps ?_)
  show wpAny _ _ (if ((-1 : Int) == 0) = true then _ else _) _ _ s
  rw [if_neg (by decide)]
  refine wpAny_bind (slicePart_none (wpAny_bind (slicePart_none (wpAny_bind (wpAny_pure ?_)))))
  have e1 : Builtin.Slice.sliceAdjust none none (-1) (n : Int) = ((n : Int) - 1, -1) := rfl
  have e2 : Builtin.Slice.slicePlaces ((n : Int) - 1) (-1) (-1) = n := by
    unfold Builtin.Slice.slicePlaces
    rw [if_neg (by decide)]
    by_cases hn : n = 0
    · subst hn; rfl
    · rw [if_pos (by omega), show (-(-1) : Int) = 1 from rfl, Int.ediv_one]
      omega
  show wpAny _ _ (match Builtin.Slice.sliceAdjust none none (-1) (n : Int) with | (lo, hi) => pure (lo, (-1 : Int), Builtin.Slice.slicePlaces lo hi (-1))) _ _ s
  rw [e1]
  show wpAny _ _ (pure ((n : Int) - 1, (-1 : Int), Builtin.Slice.slicePlaces ((n : Int) - 1) (-1) (-1))) _ _ s
  rw [e2]
  exact wpAny_pure h
theorem pick_rev (xs : Array Value) : ((List.range xs.size).filterMap fun (m : Nat) => xs[((xs.size : Int) - 1 + (m : Int) * -1).toNat]?).toArray = xs.toList.reverse.toArray := by
  congr 1
  obtain ⟨ys⟩ := xs
  simp only [List.size_toArray]
  have e : ∀ m, m < ys.length → ys.toArray[((ys.length : Int) - 1 + (m : Int) * -1).toNat]? = ys.reverse[m]? := fun m hm => by
    rw [List.getElem?_reverse hm, show ((ys.length : Int) - 1 + (m : Int) * -1).toNat = ys.length - 1 - m by omega]
    simp
  have g : ∀ (k : Nat), k ≤ ys.length → (List.range k).filterMap (fun (m : Nat) => ys.toArray[((ys.length : Int) - 1 + (m : Int) * -1).toNat]?) = ys.reverse.take k := by
    intro k
    induction k with
    | zero => intro _; simp
    | succ k ih =>
      intro hk
      have hl : k < ys.reverse.length := by rw [List.length_reverse]; omega
      rw [List.range_succ, List.filterMap_append, ih (by omega), List.take_add_one]
      congr 1
      simp only [List.filterMap_cons, List.filterMap_nil]
      rw [e k (by omega), List.getElem?_eq_getElem hl]
      rfl
  rw [g ys.length (Nat.le_refl _), List.take_of_length_le (by rw [List.length_reverse]; exact Nat.le_refl _)]
theorem getItem_tuple_rev {t sl : Addr} {items : Array Value} {vs : Value} {Q : Value → Shared → Prop} (ht : IsTup s.heap t items) (hs : s.heap.IsSliceOf sl .none .none vs) (ps : IsPart vs (some (-1)))
    (h : Q (.ref s.heap.objs.size) { s with heap := s.heap.push { cls := .type "tuple", data := .seq items.toList.reverse.toArray } })
    (hsz : items.size ≤ sizeLine) : wpAny (model prog w) A (getItem (.ref t) (.ref sl)) Q E s := by
  have htake : sizeOk (.seq items.toList.reverse.toArray) := by
    show items.toList.reverse.toArray.size ≤ sizeLine
    rw [List.size_toArray, List.length_reverse, Array.length_toList]
    exact hsz
  obtain ⟨os, hos, hcs, hds⟩ := id hs
  have hTs : s.TypeIs (.ref sl) "slice" := ⟨os, hos, hcs⟩
  unfold getItem
  try with_reducible refine wpAny_holding ?_
  first | refine wpAny_bind (wpAny_pure ?_) | skip
  refine wpAny_bind (wpAny_sequenceKey ht.typeIs (by decide) ?_)
  refine wpAny_bind (wpAny_callSpecial?_slot (name := Str.ofString "__getitem__") ht.typeIs PyProof.Rows.slot_tuple_getitem
    (wpAny_call_entry PyProof.Rows.slot_tuple_getitem ht.typeIs entry_tuple_getitem ?_ (args_tuple_getitem _ _)))
  show wpAny _ _ (Builtin.Tuple.tupleItemsOf (.ref t) >>= _) _ _ s
  refine wpAny_bind (tupleItemsOf_ ht ?_)
  refine wpAny_bind (wpAny_typeOf hTs ?_)
  rw [if_pos (by decide)]
  refine wpAny_bind (sliceApplied_rev hs ps ?_)
  have hno : ¬ ((((items.size : Int) - 1) == 0 && (-1 : Int) == 1 && items.size == items.size) = true) := by simp
  show wpAny _ _ (if (((items.size : Int) - 1) == 0 && (-1 : Int) == 1 && items.size == items.size) = true then _ else _) _ _ s
  rw [if_neg hno, pick_rev]
  first
    | exact wpAny_bind (m := Builtin.Tuple.tupleExact _) (wpAny_newObj_type (wpAny_pure ⟨_, rfl, wpAny_pure h⟩) htake)
    | exact wpAny_bind (m := Builtin.Tuple.tupleExact _) (wpAny_newObj_type (wpAny_bind (wpAny_pure (wpAny_pure ⟨_, rfl, wpAny_pure h⟩))) htake)
    | exact wpAny_bind (wpAny_bind (m := Builtin.Tuple.tupleExact _) (wpAny_newObj_type (wpAny_pure (wpAny_pure ⟨_, rfl, wpAny_pure h⟩)) htake))
    | exact wpAny_bind (wpAny_bind (m := Builtin.Tuple.tupleExact _) (wpAny_newObj_type (wpAny_pure ⟨_, rfl, wpAny_pure h⟩) htake))
end
def tRev (K : PySem.W.Frag) (te : TE) : TE := fun σ H Q => te σ H fun x H1 => ∃ a xs, x = .ref a ∧ SqT K H1 a xs ∧ xs.length ≤ sizeLine ∧ ∀ p, H1 p = none → Q (.ref p) (upd H1 p (.tup xs.reverse))
theorem vals_rev : ∀ {xs : List V} {us : List Value}, Vals xs us → Vals xs.reverse us.reverse
  | _, _, .nil => .nil
  | _, _, .cons r t => by
    rw [List.reverse_cons, List.reverse_cons]
    exact Vals.append (vals_rev t) (.cons r .nil)
theorem pe_revK {X : Cx} {K : PySem.W.Frag} {e : Expr} {te : TE} {p1 p2 p3 pos : Pos} {kk : Nat} (hK : X.K = K) (he : PE X e te) : PE X (.Subscript e (.Slice none none (some (.UnaryOp .USub (.Constant (.int 1) kk p1) p2)) p3) pos) (tRev K te) := by
  subst hK
  refine ⟨fun pins s σ H Q I h => ?_⟩
  refine PyProof.Rows.Subscript_ (thn (he.run pins s σ H _ I h) fun v s1 ⟨x, H1, I1, r1, q1⟩ => ?_)
  have hl : PO X none tNoPart := po_none
  have hs : PO X (some (.UnaryOp .USub (.Constant (.int 1) kk p1) p2)) (tPart (tUn (rU fun i => .int (-i)) (tC (.int 1)))) := po_some (pe_un un_neg pe_int)
  obtain ⟨a, xs, rfl, hx, hz, q⟩ := q1
  refine wpAny_Slice (thn (hl.run pins s1 σ H1 (fun o H' => o = none ∧ H' = H1) I1 ⟨rfl, rfl⟩) fun vl s2 ⟨l, H2, I2, pl, el, eH2⟩ => thn (hl.run pins s2 σ H2 (fun o H' => o = none ∧ H' = H2) I2 ⟨rfl, rfl⟩) fun vu s3 ⟨u, H3, I3, pu, eu, eH3⟩ => thn (hs.run pins s3 σ H3 (fun o H' => o = some (-1) ∧ H' = H3) I3 ⟨1, rfl, _, rfl, rfl, rfl⟩) fun vs s4 ⟨o, H4, I4, ps, eo, eH4⟩ => ?_)
  subst el eu eo eH2 eH3 eH4
  cases r1
  cases pl
  cases pu
  have I5 : L2.Inv X pins σ H4 { s4 with heap := s4.heap.push { cls := .type "slice", data := .fields #[.none, .none, vs] } } := I4.kept (t' := s4.toks) fun b ob q => Heap.get?_push_of_some _ q
  obtain ⟨its, r, ht, hz2⟩ := I5.tuple hx
  have hlen := r.length
  show wpAny (model X.prog X.w) X.A (PyProof.Rows.subscriptTail e (.Slice none none (some (.UnaryOp .USub (.Constant (.int 1) kk p1) p2)) p3) (.ref a) (.ref s4.heap.objs.size)) (EP X pins σ Q) X.xe { s4 with heap := s4.heap.push { cls := .type "slice", data := .fields #[.none, .none, vs] } }
  refine PyProof.Rows.tail_any (ops := [.ref a, .ref s4.heap.objs.size]) ht.typeIs (PyProof.Rows.slot_tuple_getitem.lookup) ?_ (by with_unfolding_all rfl)
  refine getItem_tuple_rev ht (Heap.IsSliceOf.new _ .none .none vs) ps ?_ (by rw [List.size_toArray]; omega)
  refine ⟨.ref _, _, I5.laid (t' := s4.toks) (o := .tup xs.reverse) (fun b ob q => Heap.get?_push_of_some _ q) (Nat.le_refl _) ?_, rfl, q _ (I5.hok.fresh (Nat.le_refl _))⟩
  exact ⟨by rw [List.length_reverse]; exact hz, _, vals_rev r, IsTup.new _ _⟩
def sRevA (a : SE) : SE := fun ρ c => (a ρ c).bind fun p => match p.1 with
  | .tuple xs => if few xs.length = true then some (.tuple xs.reverse, p.2) else none
  | _ => none
theorem imp_revA {K : PySem.W.Frag} {te : TE} {a : SE} (ha : ImpE K te a) : ImpE K (tRev K te) (sRevA a) := fun ad B σ H ρ c d c' Q R h q => by
  obtain ⟨⟨x, c1⟩, h1, h⟩ := Option.bind_eq_some_iff.mp h
  cases x with
  | tuple ds =>
    have h' : (if few ds.length = true then some (PyData.tuple ds.reverse, c1) else none) = some (d, c') := h
    split at h'
    · rename_i hf
      cases h'
      refine ha ad B σ H ρ c _ _ _ R h1 fun v B1 H1 f1 d1 => ?_
      obtain ⟨a, vs, rfl, g1, g2⟩ := dp_tuple d1
      refine ⟨a, vs, rfl, SqT.of (f1.bh _ _ g1), by rw [dpAll_len g2]; exact few_line hf, fun p np => ?_⟩
      exact q _ (upd B1 p (.tup vs.reverse)) _ (R.trans f1 ((Grow.new f1.bh np).fw f1.cell)) (dp_newTup (f1.bh.free np) (dpAll_rev g2))
    · cases h'
  | _ => cases h
end DL
/-! DLq: sum, min, max of a tuple of ints. -/
namespace DL
open PySem PySem.Spec L2 PyProof.Rows
section
variable {prog : Program} {w : World} {A : Around} {E : Value → Shared → Prop} {s : Shared} {l : Addr} {xs : Array (Int × Tok)}
theorem iter_intTup {Q : Value → Shared → Prop} (hl : s.heap.IsTuple l (intItems xs))
    (h : ∀ s₂ : Shared, s₂ = { s with heap := s.heap.push { cls := .type "tuple_iterator", data := .fields #[.ref l, .int 0 0] } } →
      (s₂.heap.IsTupleIter s.heap.objs.size l 0 ∧ s₂.heap.IsTuple l (intItems xs)) → (∀ b ∈ [s.heap.objs.size, l], b < s₂.heap.objs.size) → l ≠ s.heap.objs.size → Q (.ref s.heap.objs.size) s₂) :
    wpAny (model prog w) A (pyIter (.ref l)) Q E s := by
  have hlt : l < s.heap.objs.size := by obtain ⟨_, e, _⟩ := hl; exact Heap.lt_size e
  refine wpAny_pyIter_tuple hl (h _ rfl ⟨⟨_, Heap.get?_push_size _ rfl, rfl, rfl⟩, hl.push _⟩ (fun b hb => ?_) (Nat.ne_of_lt hlt))
  show b < (s.heap.push _).objs.size
  rw [Heap.size_push]
  rcases List.mem_cons.mp hb with rfl | hb
  · exact Nat.lt_succ_self _
  · rcases List.mem_cons.mp hb with rfl | hb
    · exact Nat.lt_succ_of_lt hlt
    · cases hb
theorem old_keptT {h' : Heap} (hk : ∀ b o, b ∉ [s.heap.objs.size] → (s.heap.push { cls := .type "tuple_iterator", data := .fields #[.ref l, .int 0 0] }).get? b = some o → h'.get? b = some o) :
    ∀ b o, s.heap.get? b = some o → h'.get? b = some o := fun b o e => by
  refine hk b o (fun hm => ?_) (Heap.get?_push_of_some _ e)
  rcases List.mem_cons.mp hm with e1 | hm
  · exact absurd (e1 ▸ Heap.lt_size e) (Nat.lt_irrefl _)
  · cases hm
theorem sum_intTup {Q : Value → Shared → Prop} (hh : A.handled = none) (hl : s.heap.IsTuple l (intItems xs))
    (h : ∀ h' tk t', (∀ b o, s.heap.get? b = some o → h'.get? b = some o) → Q (.int (preSum (numAt xs) xs.size) t') { s with heap := h', toks := tk }) :
    wpAny (model prog w) A (call (.builtin "sum") [.ref l]) Q E s := by
  refine call_sum_walkG (iter_intTup hl fun s₂ e st hfp hlI => ?_)
  subst e
  refine ⟨_, _, _, _, _, _, numAt xs, rfl, Walks.tuple (A := A.in1) hh _ l hlI (intItems xs), st, hfp, (fun _ _ => intItems_at), fun h' tk t' hk => ?_⟩
  have := h h' tk t' (old_keptT hk)
  simpa [intItems] using this
variable {its : List Value} {ns : List Int} {Q : Value → Shared → Prop}
theorem sum_rawT (hh : A.handled = none) (hl : s.heap.IsTuple l its.toArray) (hi : IntsAre its ns)
    (h : ∀ h' tk t', (∀ b o, s.heap.get? b = some o → h'.get? b = some o) → Q (.int ns.sum t') { s with heap := h', toks := tk }) : wpAny (model prog w) A (call (.builtin "sum") [.ref l]) Q E s := by
  obtain ⟨xs, e⟩ := hi.allInts.items
  have hn : numsOf (intItems xs).toList = ns := by rw [← e]; exact hi.numsOf
  rw [nums_intItems] at hn
  rw [e] at hl
  refine sum_intTup hh hl fun h' tk t' hk => ?_
  have := h h' tk t' hk
  rw [preSum_eq, List.take_of_length_le (by simp), hn]; exact this
end
section
variable {K : PySem.W.Frag} {X : Cx}
abbrev SqA (K : PySem.W.Frag) (H : Hp) (a : Addr) (xs : List V) : Prop := SqL K H a xs ∨ SqT K H a xs
def rSumA (K : PySem.W.Frag) : List V → Hp → VK → Prop := fun vs H Q => ∃ (a : Addr) (ns : List Int), vs = [V.ref a] ∧ SqA K H a (ns.map V.int) ∧ Q (.int ns.sum) H
theorem cr_sumA (h : X.K = K) (hc : X.calm = true) : CallR X (.builtin "sum") (rSumA K) := by
  subst h
  intro pins s σ H vs us Q I r h
  obtain ⟨a, ns, rfl, hs | hs, q⟩ := h
  · obtain ⟨its, rv, hl, _⟩ := I.list hs
    rw [Vals.ref1 r]
    exact sum_raw (I.ok.hd hc) hl.isList rv.ints fun h' tk t' hk => ⟨.int _, H, I.kept hk, ⟨_, rfl⟩, q⟩
  · obtain ⟨its, rv, hl, _⟩ := I.tuple hs
    rw [Vals.ref1 r]
    exact sum_rawT (I.ok.hd hc) hl rv.ints fun h' tk t' hk => ⟨.int _, H, I.kept hk, ⟨_, rfl⟩, q⟩
/-- the ints of a list or tuple -/
def seqI : D → Option (List Int)
  | .list xs => intsD xs
  | .tuple xs => intsD xs
  | _ => none
theorem seqI_ok {B H : Hp} {x : V} {d : D} {ns : List Int} (s : Same B H) (h : Dp K B x d) (e : seqI d = some ns) : ∃ a, x = .ref a ∧ SqA K H a (ns.map V.int) := by
  cases d with
  | list xs =>
    obtain ⟨a, vs, rfl, g1, g2⟩ := dp_list h
    exact ⟨a, rfl, .inl (by rw [← ints_ok g2 e]; exact SqL.of (s _ _ g1))⟩
  | tuple xs =>
    obtain ⟨a, vs, rfl, g1, g2⟩ := dp_tuple h
    exact ⟨a, rfl, .inr (by rw [← ints_ok g2 e]; exact SqT.of (s _ _ g1))⟩
  | _ => cases e
def sumA : List D → Option D
  | [d] => (seqI d).map fun ns => .int ns.sum
  | _ => none
theorem d_sumA : CallD K (rSumA K) sumA := fun B H xs ds z Q s hx h q => by
  unfold sumA at h
  split at h
  · obtain ⟨ns, e1, e2⟩ := Option.map_eq_some_iff.mp h
    subst e2
    obtain ⟨x, rfl, h1⟩ := dpAll_1 hx
    obtain ⟨a, rfl, g⟩ := seqI_ok s h1 e1
    exact ⟨a, ns, rfl, g, q _ B H (Grow.refl s) (.int _)⟩
  · cases h
def maxS : List D → Option D
  | [.int i, .int j] => some (.int (max i j))
  | [d] => (seqI d).bind fun ns => if ns = [] then none else some (.int (maxL ns))
  | _ => none
def minS : List D → Option D
  | [.int i, .int j] => some (.int (min i j))
  | [d] => (seqI d).bind fun ns => if ns = [] then none else some (.int (minL ns))
  | _ => none
end
end DL
/-! DLr: sorted(set(t)) of a tuple of ints. -/
namespace DL
open PySem PySem.Spec L2 PyProof.Rows
theorem pg_tupK {X : Cx} {K : PySem.W.Frag} {es : List Expr} {k : Nat} {t : TGs} {n : Nat} {pos : Pos} (hK : X.K = K) (hc : X.calm = true) (h : PGs X es t)
    (hn : (assignEach es X.env).length = n := by rfl) (hst : (assignEach es X.env).findIdx? (·.1) = none := by rfl) : PG X (.Tuple es k pos) (gTup K n t) := by
  subst hK; exact pg_tup hc h hn hst
theorem pi_listK {X : Cx} {K : PySem.W.Frag} {tg l : Expr} {tl : TE} (hK : X.K = K) (hl : PE X l tl) : PI X tg l (iList K tl) := by subst hK; exact pi_list hl
theorem pi_tupleK {X : Cx} {K : PySem.W.Frag} {tg l : Expr} {tl : TE} (hK : X.K = K) (hl : PE X l tl) : PI X tg l (iTup K tl) := by subst hK; exact pi_tup hl
end DL
/-! DLs: comprehensions with two fors; pop; dicts asked for their least key; remainders by any sign. -/
namespace DL
open PySem PySem.Spec L2
section
variable {K : PySem.W.Frag}
theorem Fw.nB {ad : Option Addr} {c' : Dr} {B H B' H' : Hp} {a : Addr} {o : HO} (x : Fw ad c' B H B' H') (n : B a = none) (h : H a = some o) : B' a = none := by
  cases z : B' a with
  | none => rfl
  | some u =>
    have := x.fresh a u z n
    rw [h] at this; cases this
/-! ### two fors -/
end
end DL
/-! DLu: pop; how many keys a dict has, and the least one of one; remainders by any sign. -/
namespace DL
open PySem PySem.Spec L2 PyProof.Rows
section
variable {K : PySem.W.Frag} {X : Cx}
/-! ### y = x.pop() -/
/-! ### len(d), min(d) -/
/-! ### a % b, b of any sign -/
end
end DL
/-! DLx: a list of lists of one's own, filled by loops, then plain data. -/
namespace DL
open PySem PySem.Spec L2
section
variable {K : PySem.W.Frag}
/-- at slot i a list a of lists bs; nss what they hold -/
structure NeOk (K : PySem.W.Frag) (ad : Option Addr) (B H : Hp) (σ : L2.St) (ρ : Rho) (i : Nat) (a : Addr) (bs : List Addr) (nss : List (List D)) : Prop where
  at_ : σ[i]? = some (some (.ref a))
  un : ρ[i]? = some .un
  ha : H a = some (.lst (bs.map V.ref))
  na : B a = none
  aa : ad ≠ some a
  ao : ¬ Owned ρ σ a
  ab : a ∉ bs
  len : bs.length = nss.length
  nd : bs.Nodup
  inn : ∀ (j : Nat) (b : Addr), bs[j]? = some b → ∃ vs xs, nss[j]? = some xs ∧ H b = some (.lst vs) ∧ DpAll K B vs xs ∧ B b = none ∧ ad ≠ some b ∧ ¬ Owned ρ σ b
/-- a way on which the lists bs may grow -/
structure FwN (ad : Option Addr) (bs : List Addr) (B : Hp) (σ : L2.St) (H : Hp) (ρ : Rho) (B' : Hp) (σ' : L2.St) (H' : Hp) (ρ' : Rho) : Prop where
  bb : Same B B'
  keep : ∀ x o, ad ≠ some x → H x = some o → ¬ Owned ρ σ x → x ∉ bs → H' x = some o
  fresh : ∀ x o, B' x = some o → B x = none → H x = none ∨ Owned ρ σ x
  own : ∀ x, Owned ρ' σ' x → Owned ρ σ x ∨ H x = none
  al : ∀ b, b ∈ bs → ∃ o, H' b = some o
variable {ad : Option Addr} {B B1 B2 B' H H1 H2 H' : Hp} {σ σ1 σ2 σ' : L2.St} {ρ ρ1 ρ2 ρ' : Rho} {c c1 c2 c' : Dr} {i : Nat} {a : Addr} {bs : List Addr} {nss : List (List D)}
theorem NeOk.alive (n : NeOk K ad B H σ ρ i a bs nss) : ∀ b, b ∈ bs → ∃ o, H b = some o := fun b hb => by
  obtain ⟨j, hj, e⟩ := List.getElem_of_mem hb
  obtain ⟨vs, xs, _, h, _⟩ := n.inn j b (by rw [List.getElem?_eq_getElem hj, e])
  exact ⟨_, h⟩
theorem FwN.refl (n : NeOk K ad B H σ ρ i a bs nss) : FwN ad bs B σ H ρ B σ H ρ :=
  ⟨Same.refl B, fun _ _ _ h _ _ => h, fun x o h m => (by rw [h] at m; cases m), fun x z => .inl z, n.alive⟩
theorem FwN.trans (r : Rl K ad B σ H ρ c) (r1 : Rl K ad B1 σ1 H1 ρ1 c1) (x : FwN ad bs B σ H ρ B1 σ1 H1 ρ1) (y : FwN ad bs B1 σ1 H1 ρ1 B2 σ2 H2 ρ2) : FwN ad bs B σ H ρ B2 σ2 H2 ρ2 := by
  have back : ∀ z, H1 z = none → Owned ρ σ z ∨ H z = none := fun z q => by
    by_cases w : Owned ρ σ z
    · exact .inl w
    · cases e : H z with
      | none => exact .inr rfl
      | some u =>
        have n1 : ad ≠ some z := fun z' => by
          have := r1.cell z z'
          rw [q] at this; cases this
        have n2 : z ∉ bs := fun z' => by
          obtain ⟨o, h⟩ := x.al z z'
          rw [q] at h; cases h
        rw [x.keep z u n1 e w n2] at q; cases q
  refine ⟨x.bb.trans y.bb, fun z o n h no nb => ?_, fun z o h n => ?_, fun z w => ?_, y.al⟩
  · refine y.keep z o n (x.keep z o n h no nb) (fun w => ?_) nb
    rcases x.own z w with q | q
    · exact no q
    · rw [h] at q; cases q
  · cases q : B1 z with
    | some u => exact x.fresh z u q n
    | none =>
      rcases y.fresh z o h q with w | w
      · exact (back z w).symm
      · exact (x.own z w).symm
  · rcases y.own z w with q | q
    · exact x.own z q
    · exact back z q
/-- an expression on the way -/
theorem NeOk.fw (n : NeOk K ad B H σ ρ i a bs nss) (x : Fw ad c' B H B' H') : NeOk K ad B' H' σ ρ i a bs nss where
  at_ := n.at_
  un := n.un
  ha := x.keep a _ n.aa n.ha
  na := x.nB n.na n.ha
  aa := n.aa
  ao := n.ao
  ab := n.ab
  len := n.len
  nd := n.nd
  inn := fun j b e => by
    obtain ⟨vs, xs, h1, h2, h3, h4, h5, h6⟩ := n.inn j b e
    exact ⟨vs, xs, h1, x.keep b _ h5 h2, dpAll_mono x.bb _ _ h3, x.nB h4 h2, h5, h6⟩
theorem FwN.ofFw (n : NeOk K ad B H σ ρ i a bs nss) (x : Fw ad c' B H B' H') : FwN ad bs B σ H ρ B' σ H' ρ :=
  ⟨x.bb, fun z o m h _ _ => x.keep z o m h, fun z o h m => .inl (x.fresh z o h m), fun z w => .inl w, (n.fw x).alive⟩
/-- slots change, the heap does not -/
theorem NeOk.slots (n : NeOk K ad B H σ ρ i a bs nss) (h1 : σ'[i]? = σ[i]?) (h2 : ρ'[i]? = some .un) (h3 : ∀ x, Owned ρ' σ' x → Owned ρ σ x ∨ H x = none) : NeOk K ad B H σ' ρ' i a bs nss where
  at_ := by rw [h1]; exact n.at_
  un := h2
  ha := n.ha
  na := n.na
  aa := n.aa
  ao := fun z => by
    rcases h3 a z with w | w
    · exact n.ao w
    · rw [n.ha] at w; cases w
  ab := n.ab
  len := n.len
  nd := n.nd
  inn := fun j b e => by
    obtain ⟨vs, xs, g1, g2, g3, g4, g5, g6⟩ := n.inn j b e
    refine ⟨vs, xs, g1, g2, g3, g4, g5, fun z => ?_⟩
    rcases h3 b z with w | w
    · exact g6 w
    · rw [g2] at w; cases w
theorem FwN.slots (n : NeOk K ad B H σ ρ i a bs nss) (h3 : ∀ x, Owned ρ' σ' x → Owned ρ σ x ∨ H x = none) : FwN ad bs B σ H ρ B σ' H ρ' :=
  ⟨Same.refl B, fun _ _ _ h _ _ => h, fun x o h m => (by rw [h] at m; cases m), h3, n.alive⟩

abbrev SN := Rho → List (List D) → Dr → Option (Rho × List (List D) × Dr)
/-! ### made, filled, and plain data from then on -/
end
end DL
namespace DL
open PySem PySem.Spec L2
end DL
/-! DLy: sets out of lists of ints, sorted; list(range(..)); texts cut and in capitals; truths among ints. -/
namespace DL
open PySem PySem.Spec L2 PyProof.Rows
/-! ### set(xs) of a list of ints -/
section
variable {P : Program} {w : World} {A : Around} {E : Value → Shared → Prop} {s : Shared}
set_option maxHeartbeats 6400000 in
end
/-! sorted(set(xs)) -/
section
variable {K : PySem.W.Frag} {X : Cx}
/-! ### list(range(..)) -/
/-! ### texts -/
/-! ### truths among ints -/
/-! ### a def that calls itself: where nothing is promised -/
end
end DL
/-! DLz: is True, is not True. -/
namespace DL
open PySem PySem.Spec L2
section
variable {K : PySem.W.Frag}
end
end DL
namespace DL
open PySem PySem.Spec L2
section
variable {K : PySem.W.Frag} {X : Cx}
theorem call_isiK (h : X.K = K) : CallR X (.builtin "isinstance") (rIsi K) := by subst h; exact call_isi
end
end DL
/-! DLv: pop(k), insert, x[a:b] = .., of a list of one's own. -/
namespace DL
open PySem PySem.Spec L2 PyProof.Rows
/-! ### x[a:b] = y, b behind the end too -/
section
variable {prog : Program} {w : World} {A : Around} {E : Value → Shared → Prop} {s : Shared}
set_option maxRecDepth 100000 in
end
section
variable {K : PySem.W.Frag} {X : Cx}
/-! on data -/
/-! ### x.pop(k), x.insert(k, e) -/
end
end DL
/-! DLw: x or y, by truth. -/
namespace DL
open PySem PySem.Spec L2
section
variable {K : PySem.W.Frag} {X : Cx}
end
end DL
/-! EXe: defs that get the handled exception itself, and nothing else. -/
namespace EX
open PySem PySem.Spec PyProof.Rows L2 HotX L2H
/-- the handled exception's object: an instance of the class D, with no dict -/
structure OfD (D : Addr) (q : Addr × Obj) : Prop where
  z : L2N.Zn (.ref D) none q.2
  f : ∃ vs, q.2.data = .fields vs
/-- the context of such a def's body -/
abbrev cxE (P : Program) (w : World) (K : PySem.W.Frag) (mg : Str → Option Value) (base : Heap) (N : List Str) (qual : Str) (sc : Scope) (f : Addr) (cd : Value) (A : Around) (l : List Env) (s : Shared) (H : Hp) (q : Addr × Obj) : Cx :=
  cxH CX0 P w K mg base N qual sc f cd A l s H E0 q
section
variable {X : Cx} {k i : Nat} {D f : Addr} {fd : FuncData} {y x : Str} {S : Hp → VK → Prop} {q : Addr × Obj} {p pos : Pos} {e : Expr}
/-- x(e), e the handled exception -/
def tE (a : Addr) (i : Nat) (S : Hp → VK → Prop) : TE := fun σ H Q => σ[i]? = some (some (.ref a)) ∧ S H Q
end
section
variable {X : Cx} {D : Addr} {q : Addr × Obj} {pins : List (Addr × Obj)} {σ : L2.St} {H : Hp} {s : Shared}
end
end EX
/-! EXf: on data: what the handled exception is an instance of; zip while it is handled; join. -/
namespace EX
open PySem PySem.Spec PyProof.Rows L2 DL
section
variable {K : PySem.W.Frag} {Dc a : Addr} {i : Nat}
/-- what is told of the opaque v in the slot i -/
noncomputable def sIs (i : Nat) (v : V) (b : Bool) : SE := open Classical in fun ρ c => if ρ[i]? = some (.op v) then some (.bool b, c) else none
theorem sIs_eq {v : V} {b : Bool} {ρ : Rho} {c : Dr} (h : ρ[i]? = some (.op v)) : sIs i v b ρ c = some (.bool b, c) := if_pos h
theorem sIs_slot {v : V} {b : Bool} {ρ : Rho} {c c' : Dr} {d : D} (h : sIs i v b ρ c = some (d, c')) : ρ[i]? = some (.op v) ∧ d = .bool b ∧ c' = c := by
  unfold sIs at h
  split at h
  · rename_i z
    cases h
    exact ⟨z, rfl, rfl⟩
  · cases h
/-- zip of two lists alike long -/
def sZipH (a b : SE) : SI := fun ρ c => (a ρ c).bind fun p => (b ρ p.2).bind fun q => match p.1, q.1 with
  | .list xs, .list ys => if xs.length = ys.length then some (zipL xs ys, q.2) else none
  | _, _ => none
theorem imp_zipH {t u : TE} {a b : SE} (h : ImpE K t a) (h2 : ImpE K u b) : ImpI K (iZipH K (tCons t (tCons u tNil))) (sZipH a b) := fun ad B σ H ρ c xs c' Q R e q => by
  obtain ⟨⟨d, c1⟩, e1, e2⟩ := Option.bind_eq_some_iff.mp e
  obtain ⟨⟨d2, c2⟩, e3, e4⟩ := Option.bind_eq_some_iff.mp e2
  refine h ad B σ H ρ c d _ _ R e1 fun v B1 H1 x dv => h2 ad B1 σ H1 ρ c1 d2 _ _ (R.fw x) e3 fun v2 B' H' y dv2 => ?_
  cases d with
  | list ys =>
    cases d2 with
    | list zs =>
      have e4' : (if ys.length = zs.length then some (zipL ys zs, c2) else none) = some (xs, c') := e4
      split at e4'
      · rename_i hl
        cases e4'
        obtain ⟨a, vs, rfl, k1, s1⟩ := dp_list dv
        obtain ⟨b, ws, rfl, k2, s3⟩ := dp_list dv2
        have g1 : ∀ {H2}, Same B' H2 → SqL K H2 a vs := fun m => SqL.of (m _ _ (y.bb _ _ k1))
        have g2 : ∀ {H2}, Same B' H2 → SqL K H2 b ws := fun m => SqL.of (m _ _ k2)
        refine ⟨a, b, vs, ws, rfl, g1 y.bh, g2 y.bh, q _ B' H' (R.trans x y) fun B2 H2 m1 m2 => ⟨⟨vs, g1 (m1.trans m2), ?_⟩, fun i d hd => ?_⟩⟩
        · rw [zipL_len, ← hl, Nat.min_self]; exact Nat.le_of_eq (dpAll_len s1)
        · obtain ⟨y1, y2, j1, j2, rfl⟩ := zipL_get hd
          obtain ⟨w1, n1, o1⟩ := dpAll_get s1 j1
          obtain ⟨w2, n2, o2⟩ := dpAll_get s3 j2
          refine ⟨⟨vs, ws, w1, w2, g1 (m1.trans m2), g2 (m1.trans m2), n1, n2⟩, fun z H3 hy => ?_⟩
          obtain ⟨T, x', y', rfl, nT, rfl, f, f2⟩ := hy
          cases (f vs (g1 (m1.trans m2))).symm.trans n1
          cases (f2 ws (g2 (m1.trans m2))).symm.trans n2
          obtain ⟨g, dd⟩ := Grow.newTup (K := K) (vs := [w1, w2]) (ds := [y1, y2]) m2 nT (.cons (dp_mono (y.bb.trans m1) _ _ o1) (.cons (dp_mono m1 _ _ o2) .nil))
          exact ⟨_, g, dd⟩
      · cases e4'
    | _ => cases e4
  | _ => cases e4
/-- texts -/
def strsD : List D → Option (List Str)
  | [] => some []
  | .str x :: r => (strsD r).map (x :: ·)
  | _ :: _ => none
theorem strsD_ok {B : Hp} : ∀ {ds : List D} {vs : List V} {ys : List Str}, DL.DpAll K B vs ds → strsD ds = some ys → vs = ys.map V.str
  | [], _, ys, .nil, e => by cases e; rfl
  | .str x :: r, _, ys, .cons h1 h2, e => by
    obtain ⟨zs, e1, rfl⟩ := Option.map_eq_some_iff.mp (show (strsD r).map (x :: ·) = some ys from e)
    cases h1
    rw [strsD_ok h2 e1]
    rfl
def sJoin (a b : SE) : SE := fun ρ c => (a ρ c).bind fun p => (b ρ p.2).bind fun q => match p.1, q.1 with
  | .str x, .list ds => (strsD ds).bind fun ys => if (ys.map (·.length)).sum + ys.length * x.length ≤ 1000000 then some (.str (Txt.join x ys), q.2) else none
  | _, _ => none
abbrev rJoin (K : PySem.W.Frag) : V → List V → Hp → VK → Prop := fun x xs H Q => ∃ a p, ∃ ys : List Str, x = .str a ∧ xs = [.ref p] ∧ (SqL K H p (ys.map V.str) ∨ SqT K H p (ys.map V.str)) ∧ (ys.map (·.length)).sum + ys.length * a.length ≤ 16777216 ∧ Q (.str (Txt.join a ys)) H
theorem imp_join {t u : TE} {a b : SE} (h : ImpE K t a) (h2 : ImpE K u b) : ImpE K (tM1 (rJoin K) t u) (sJoin a b) := fun ad B σ H ρ c d c' Q R e q => by
  obtain ⟨⟨d1, c1⟩, e1, e2⟩ := Option.bind_eq_some_iff.mp e
  obtain ⟨⟨d2, c2⟩, e3, e4⟩ := Option.bind_eq_some_iff.mp e2
  refine h ad B σ H ρ c d1 _ _ R e1 fun v B1 H1 x dv => ?_
  cases d1 with
  | str z =>
    cases dv
    refine ⟨⟨z, rfl⟩, h2 ad B1 σ H1 ρ c1 d2 _ _ (R.fw x) e3 fun v2 B' H' y dv2 => ?_⟩
    cases d2 with
    | list ds =>
      obtain ⟨ys, e5, e6⟩ := Option.bind_eq_some_iff.mp (show (strsD ds).bind (fun ys => if (ys.map (·.length)).sum + ys.length * z.length ≤ 1000000 then some (PyData.str (Txt.join z ys), c2) else none) = some (d, c') from e4)
      split at e6
      · rename_i hl
        cases e6
        obtain ⟨p, vs, rfl, k1, s1⟩ := dp_list dv2
        have ev := strsD_ok s1 e5
        subst ev
        exact ⟨z, p, ys, rfl, rfl, .inl (SqL.of (y.bh _ _ k1)), Nat.le_trans hl (by decide), q _ B' H' (R.trans x y) (.str _)⟩
      · cases e6
    | _ => cases e4
  | _ => cases e4
end
end EX
/-! DE: how meanings reckon: lemmas for simp, and loops by the state at each turn. -/
namespace DL
open PySem PySem.Spec L2
section
variable {ρ ρ' ρ1 : Rho} {c c' c1 : Dr} {i j : Nat}
@[simp] theorem ev_sV : sV i ρ c = (match ρ[i]? with | some (.im d) => some (d, c) | _ => none) := Eq.trans rfl rfl
@[simp] theorem ev_sC {d : D} : sC d ρ c = some (d, c) := Eq.trans rfl rfl
@[simp] theorem ev_sOp {g : D → D → Option D} {a b : SE} : sOp g a b ρ c = (a ρ c).bind fun p => (b ρ p.2).bind fun q => (g p.1 q.1).bind fun z => some (z, q.2) := Eq.trans rfl rfl
@[simp] theorem ev_sUn {g : D → Option D} {a : SE} : sUn g a ρ c = (a ρ c).bind fun p => (g p.1).bind fun z => some (z, p.2) := Eq.trans rfl rfl
@[simp] theorem ev_sB {a : SE} : sB a ρ c = (a ρ c).bind fun p => match p.1 with | .bool b => some (b, p.2) | _ => none := Eq.trans rfl rfl
@[simp] theorem ev_sTr {a : SE} : sTr a ρ c = (a ρ c).bind fun p => (truD p.1).bind fun b => some (b, p.2) := Eq.trans rfl rfl
@[simp] theorem ev_sAnd {a b : SB} : sAnd a b ρ c = (a ρ c).bind fun p => if p.1 = true then b ρ p.2 else some (false, p.2) := Eq.trans rfl rfl
@[simp] theorem ev_sOr {a b : SB} : sOr a b ρ c = (a ρ c).bind fun p => if p.1 = true then some (true, p.2) else b ρ p.2 := Eq.trans rfl rfl
@[simp] theorem ev_sNot {a : SB} : sNot a ρ c = (a ρ c).bind fun p => some (!p.1, p.2) := Eq.trans rfl rfl
@[simp] theorem ev_sAndV {a b : SE} : sAndV a b ρ c = (sB a ρ c).bind fun p => if p.1 = true then b ρ p.2 else some (.bool false, p.2) := Eq.trans rfl rfl
@[simp] theorem ev_sOrV {a b : SE} : sOrV a b ρ c = (sB a ρ c).bind fun p => if p.1 = true then some (.bool true, p.2) else b ρ p.2 := Eq.trans rfl rfl
@[simp] theorem ev_sNotV {a : SE} : sNotV a ρ c = (sB a ρ c).bind fun p => some (.bool (!p.1), p.2) := Eq.trans rfl rfl
@[simp] theorem ev_sIfE {t : SB} {a b : SE} : sIfE t a b ρ c = (t ρ c).bind fun p => if p.1 = true then a ρ p.2 else b ρ p.2 := Eq.trans rfl rfl
@[simp] theorem ev_sChain {g g' : D → D → Option D} {a b e : SE} : sChain g g' a b e ρ c = (a ρ c).bind fun p => (b ρ p.2).bind fun q => (g p.1 q.1).bind fun z => match z with
  | .bool true => (e ρ q.2).bind fun w => (g' q.1 w.1).bind fun z' => some (z', w.2)
  | .bool false => some (.bool false, q.2)
  | _ => none := Eq.trans rfl rfl
@[simp] theorem ev_sNil : sNil ρ c = some ([], c) := Eq.trans rfl rfl
@[simp] theorem ev_sCons {a : SE} {b : SA} : sCons a b ρ c = (a ρ c).bind fun p => (b ρ p.2).bind fun q => some (p.1 :: q.1, q.2) := Eq.trans rfl rfl
@[simp] theorem ev_sTup {a : SA} : sTup a ρ c = (a ρ c).bind fun p => if few p.1.length = true then some (.tuple p.1, p.2) else none := Eq.trans rfl rfl
@[simp] theorem ev_sLst {a : SA} : sLst a ρ c = (a ρ c).bind fun p => if few p.1.length = true then some (.list p.1, p.2) else none := Eq.trans rfl rfl
@[simp] theorem ev_sCB {g : List D → Option D} {a : SA} : sCB g a ρ c = (a ρ c).bind fun p => (g p.1).bind fun z => some (z, p.2) := Eq.trans rfl rfl
@[simp] theorem ev_sNoP : sNoP ρ c = some (none, c) := Eq.trans rfl rfl
@[simp] theorem ev_sP {a : SE} : sP a ρ c = (a ρ c).bind fun p => match p.1 with | .int i => some (some i, p.2) | _ => none := Eq.trans rfl rfl
@[simp] theorem ev_sSl {g : D → Option Int → Option Int → Option D} {a : SE} {l h : SO} : sSl g a l h ρ c = (a ρ c).bind fun p => (l ρ p.2).bind fun q => (h ρ q.2).bind fun r => (g p.1 q.1 r.1).bind fun z => some (z, r.2) := Eq.trans rfl rfl
@[simp] theorem ev_qN {d : D} : qN i d ρ = some (ρ.set i (.im d)) := Eq.trans rfl rfl
@[simp] theorem ev_qTup {g : List D → Rho → Option Rho} {ds : List D} : qTup g (.tuple ds) ρ = g ds ρ := Eq.trans rfl rfl
@[simp] theorem ev_qCons {g : D → Rho → Option Rho} {h : List D → Rho → Option Rho} {d : D} {ds : List D} : qCons g h (d :: ds) ρ = (g d ρ).bind fun ρ' => h ds ρ' := Eq.trans rfl rfl
@[simp] theorem ev_qNil : qNil [] ρ = some ρ := Eq.trans rfl rfl
@[simp] theorem ev_sSeq {f g : SS} : sSeq f g ρ c = (f ρ c).bind fun r => match r with | (.nx, ρ1, c1) => g ρ1 c1 | r => some r := Eq.trans rfl rfl
@[simp] theorem ev_sNext : sNext ρ c = some (.nx, ρ, c) := Eq.trans rfl rfl
@[simp] theorem ev_sRet {a : SE} : sRet a ρ c = (a ρ c).bind fun p => some (.rt p.1, ρ, p.2) := Eq.trans rfl rfl
@[simp] theorem ev_sIfS {t : SB} {f g : SS} : sIfS t f g ρ c = (t ρ c).bind fun p => if p.1 = true then f ρ p.2 else g ρ p.2 := Eq.trans rfl rfl
@[simp] theorem ev_sAsg {a : SE} {g : D → Rho → Option Rho} : sAsg a g ρ c = (a ρ c).bind fun p => (g p.1 ρ).bind fun ρ' => some (.nx, ρ', p.2) := Eq.trans rfl rfl
@[simp] theorem ev_sAug {g : D → D → Option D} {a : SE} : sAug g i a ρ c = (match ρ[i]? with | some (.im d) => (a ρ c).bind fun p => (g d p.1).bind fun z => some (.nx, ρ.set i (.im z), p.2) | _ => none) := Eq.trans rfl rfl
@[simp] theorem ev_sOfL {f : SL} : sOfL f ρ c = (f ρ c).bind fun p => some (.list p.1, p.2) := Eq.trans rfl rfl
@[simp] theorem ev_sAsgL {f : SL} : sAsgL f i ρ c = (f ρ c).bind fun p => some (.nx, ρ.set i (.ol p.1), p.2) := Eq.trans rfl rfl
@[simp] theorem ev_sFrz {f : SS} : sFrz i f ρ c = (match ρ[i]? with | some (.ol ds) => f (ρ.set i (.im (.list ds))) c | _ => none) := Eq.trans rfl rfl
@[simp] theorem ev_sApp {a : SE} : sApp i a ρ c = (match ρ[i]? with | some (.ol xs) => (a ρ c).bind fun p => if few xs.length = true then some (.nx, ρ.set i (.ol (xs ++ [p.1])), p.2) else none | _ => none) := Eq.trans rfl rfl
@[simp] theorem ev_sIxO {k : SE} : sIxO i k ρ c = (match ρ[i]? with | some (.ol xs) => ((k ρ c).bind fun q => (match q.1 with | .int j => (atI xs j).bind fun x0 => some (x0, q.2) | _ => none)) | _ => none) := Eq.trans rfl rfl
@[simp] theorem ev_sSetI {k a : SE} : sSetI i k a ρ c = (match ρ[i]? with | some (.ol xs) => ((a ρ c).bind fun p => (k ρ p.2).bind fun q => (match q.1 with | .int j => (ixN xs.length j).bind fun m => some (.nx, ρ.set i (.ol (xs.set m p.1)), q.2) | _ => none)) | _ => none) := Eq.trans rfl rfl
@[simp] theorem ev_sFl {f : SE} : sFl i f ρ c = (match ρ[i]? with | some (.ol xs) => (f (ρ.set i (.im (.list xs))) c).bind fun p => if flatD p.1 = true then some p else none | _ => none) := Eq.trans rfl rfl
@[simp] theorem ev_sFlT {f : SB} : sFlT i f ρ c = (match ρ[i]? with | some (.ol xs) => f (ρ.set i (.im (.list xs))) c | _ => none) := Eq.trans rfl rfl
@[simp] theorem ev_sItL {a : SE} : sItL a ρ c = (a ρ c).bind fun p => match p.1 with | .list xs => some (xs, p.2) | _ => none := Eq.trans rfl rfl
@[simp] theorem ev_sItT {a : SE} : sItT a ρ c = (a ρ c).bind fun p => match p.1 with | .tuple xs => some (xs, p.2) | _ => none := Eq.trans rfl rfl
@[simp] theorem ev_sR1 {a : SA} : sR1 a ρ c = (a ρ c).bind fun p => match p.1 with | [.int j] => if okR j = true then some (rngL 0 j.toNat, p.2) else none | _ => none := Eq.trans rfl rfl
@[simp] theorem ev_sR2 {a : SA} : sR2 a ρ c = (a ρ c).bind fun p => match p.1 with | [.int i, .int j] => if okR i = true ∧ okR j = true then some (rngL i (j - i).toNat, p.2) else none | _ => none := Eq.trans rfl rfl
@[simp] theorem ev_sR3 {a : SA} : sR3 a ρ c = (a ρ c).bind fun p => match p.1 with | [.int i, .int j, .int e] => if okR3 i j e = true then some (stpL i e (Builtin.Range.rangeSize i j e).toNat, p.2) else none | _ => none := Eq.trans rfl rfl
@[simp] theorem ev_sEnum {a : SE} : sEnum a ρ c = (a ρ c).bind fun p => (seqD p.1).bind fun xs => some (enumL xs, p.2) := Eq.trans rfl rfl
@[simp] theorem ev_sZip {a b : SE} : sZip a b ρ c = (a ρ c).bind fun p => (b ρ p.2).bind fun q => (seqD p.1).bind fun xs => (seqD q.1).bind fun ys => some (zipL xs ys, q.2) := Eq.trans rfl rfl
@[simp] theorem ev_sYes : sYes ρ c = some (true, c) := Eq.trans rfl rfl
@[simp] theorem ev_sLc {f : SI} {g : D → Rho → Option Rho} {t : SB} {e : SE} {vs : List Nat} : sLc f g t e vs ρ c = (f ρ c).bind fun p => if few p.1.length = true then lcS g t e (wipeR ρ vs) p.1 p.2 else none := Eq.trans rfl rfl
@[simp] theorem ev_wipe0 : wipeR ρ [] = ρ := Eq.trans rfl rfl
@[simp] theorem ev_wipe1 {v : Nat} {vs : List Nat} : wipeR ρ (v :: vs) = (wipeR ρ vs).set v .un := Eq.trans rfl rfl
@[simp] theorem ev_unset0 : unset [] ρ = ρ := Eq.trans rfl rfl
@[simp] theorem ev_unset1 {v : Nat} {vs : List Nat} : unset (v :: vs) ρ = unset vs (ρ.set v .un) := Eq.trans rfl rfl
@[simp] theorem ev_sCall {F : List D → Option D} {a : SA} : sCall F a ρ c = (a ρ c).bind fun p => (F p.1).bind fun d => some (d, p.2) := Eq.trans rfl rfl
@[simp] theorem ev_sCallD {F : List D → Dr → Option (D × Dr)} {a : SA} : sCallD F i a ρ c = (match ρ[i]? with | some .dr => (a ρ c).bind fun p => F p.1 p.2 | _ => none) := Eq.trans rfl rfl
@[simp] theorem ev_sCallK {F : List D → Option D} {gV : List D → List D → List D} {a b : SA} : sCallK F gV a b ρ c = (a ρ c).bind fun p => (b ρ p.2).bind fun q => (F (gV p.1 q.1)).bind fun d => some (d, q.2) := Eq.trans rfl rfl
@[simp] theorem ev_sListOf {a : SA} : sListOf a ρ c = (a ρ c).bind fun p => match p.1 with | [.list xs] => some (xs, p.2) | [.tuple xs] => some (xs, p.2) | _ => none := Eq.trans rfl rfl
@[simp] theorem ev_sDispL {a : SA} : sDispL a ρ c = (a ρ c).bind fun p => if few p.1.length = true then some p else none := Eq.trans rfl rfl
@[simp] theorem ev_sRepL {a : SL} {b : SE} : sRepL a b ρ c = (a ρ c).bind fun p => (b ρ p.2).bind fun q => match q.1 with | .int k => if few p.1.length = true ∧ p.1.length * k.toNat ≤ 1000000 ∧ -1000000 ≤ k ∧ k ≤ 1000000 then some ((List.replicate k.toNat p.1).flatten, q.2) else none | _ => none := Eq.trans rfl rfl
@[simp] theorem ev_sDGet2 {k x : SE} : sDGet2 i k x ρ c = (dictAt ρ[i]?).bind fun kvs => (k ρ c).bind fun p => match p.1 with | .int j => (x ρ p.2).bind fun q => some ((kvLook kvs j).getD q.1, q.2) | _ => none := Eq.trans rfl rfl
@[simp] theorem ev_sIsi {k : Cl} {a : SE} : sIsi k a ρ c = (a ρ c).bind fun p => some (.bool (isB k p.1), p.2) := Eq.trans rfl rfl
@[simp] theorem ev_sIsi2 {k l : Cl} {a : SE} : sIsi2 k l a ρ c = (a ρ c).bind fun p => some (.bool (isB k p.1 || isB l p.1), p.2) := Eq.trans rfl rfl
@[simp] theorem ev_sSl3 {a : SE} {l h s : SO} : sSl3 a l h s ρ c = (a ρ c).bind fun p => (l ρ p.2).bind fun q => (h ρ q.2).bind fun r => (s ρ r.2).bind fun o => match p.1 with
  | .list xs => if o.1 = some 0 then none else if few (pickL xs q.1 r.1 o.1).length = true then some (.list (pickL xs q.1 r.1 o.1), o.2) else none
  | _ => none := Eq.trans rfl rfl
@[simp] theorem ev_sAvNil : sAvNil ρ c = some ([], c) := Eq.trans rfl rfl
@[simp] theorem ev_sAvP {a : SE} {b : SV} : sAvP a b ρ c = (a ρ c).bind fun p => (b ρ p.2).bind fun q => some (.pl p.1 :: q.1, q.2) := Eq.trans rfl rfl
@[simp] theorem ev_sAvF {a : SL} {b : SV} : sAvF a b ρ c = (a ρ c).bind fun p => (b ρ p.2).bind fun q => some (.fr p.1 :: q.1, q.2) := Eq.trans rfl rfl
@[simp] theorem ev_sMany {is : List Nat} {f : SV} : sMany is f ρ c = (f ρ c).bind fun p => if is.length = p.1.length then some (.nx, setAv is p.1 ρ, p.2) else none := Eq.trans rfl rfl
@[simp] theorem ev_setAv {a : AV} {as : List AV} {is : List Nat} : setAv (i :: is) (a :: as) ρ = setAv is as (ρ.set i (slOf a)) := Eq.trans rfl rfl
@[simp] theorem ev_setAv0 {as : List AV} : setAv [] as ρ = ρ := by cases as <;> rfl
@[simp] theorem ev_slP {d : D} : slOf (.pl d) = .im d := Eq.trans rfl rfl
@[simp] theorem ev_slF {ds : List D} : slOf (.fr ds) = .ol ds := Eq.trans rfl rfl
@[simp] theorem ev_sDrIx {k : SE} : sDrIx i k ρ c = (match ρ[i]? with | some .dr => ((k ρ c).bind fun q => (match q.1 with | .int j => if j = 0 then some (.int q.2.1, q.2) else if j = 1 then some (.int q.2.2, q.2) else none | _ => none)) | _ => none) := Eq.trans rfl rfl
@[simp] theorem ev_sDrSet {k a : SE} : sDrSet i k a ρ c = (match ρ[i]? with | some .dr => ((a ρ c).bind fun p => (k ρ p.2).bind fun q => (match q.1, p.1 with | .int j, .int x => if j = 0 then some (.nx, ρ, (x, q.2.2)) else if j = 1 then some (.nx, ρ, (q.2.1, x)) else none | _, _ => none)) | _ => none) := Eq.trans rfl rfl
@[simp] theorem ev_addII {a b : Int} : addD (.int a) (.int b) = some (.int (a + b)) := Eq.trans rfl rfl
@[simp] theorem ev_addTT {a b : List D} : addD (.tuple a) (.tuple b) = if few (a.length + b.length) = true then some (.tuple (a ++ b)) else none := Eq.trans rfl rfl
@[simp] theorem ev_addLL {a b : List D} : addD (.list a) (.list b) = if few (a.length + b.length) = true then some (.list (a ++ b)) else none := Eq.trans rfl rfl
@[simp] theorem ev_subII {a b : Int} : subD (.int a) (.int b) = some (.int (a - b)) := Eq.trans rfl rfl
@[simp] theorem ev_modII {a b : Int} : modD (.int a) (.int b) = if 0 < b then some (.int (a % b)) else none := Eq.trans rfl rfl
@[simp] theorem ev_negI {a : Int} : negD (.int a) = some (.int (-a)) := Eq.trans rfl rfl
@[simp] theorem ev_cmpII {p : Int → Int → Bool} {a b : Int} : cmpD p (.int a) (.int b) = some (.bool (p a b)) := Eq.trans rfl rfl
@[simp] theorem ev_ixL {xs : List D} {j : Int} : ixD (.list xs) (.int j) = atI xs j := Eq.trans rfl rfl
@[simp] theorem ev_ixT {xs : List D} {j : Int} : ixD (.tuple xs) (.int j) = atI xs j := Eq.trans rfl rfl
@[simp] theorem ev_slL {xs : List D} {l h : Option Int} : slD (.list xs) l h = some (.list (cutL xs l h)) := Eq.trans rfl rfl
@[simp] theorem ev_slT {xs : List D} {l h : Option Int} : slD (.tuple xs) l h = some (.tuple (cutL xs l h)) := Eq.trans rfl rfl
@[simp] theorem ev_lenL {xs : List D} : lenD [.list xs] = some (.int xs.length) := Eq.trans rfl rfl
@[simp] theorem ev_lenT {xs : List D} : lenD [.tuple xs] = some (.int xs.length) := Eq.trans rfl rfl
@[simp] theorem ev_tupL {xs : List D} : tupleD [.list xs] = some (.tuple xs) := Eq.trans rfl rfl
@[simp] theorem ev_tupT {xs : List D} : tupleD [.tuple xs] = some (.tuple xs) := Eq.trans rfl rfl
@[simp] theorem ev_minII {a b : Int} : minD [.int a, .int b] = some (.int (min a b)) := Eq.trans rfl rfl
@[simp] theorem ev_maxII {a b : Int} : maxD [.int a, .int b] = some (.int (max a b)) := Eq.trans rfl rfl
@[simp] theorem ev_minSS {a b : Int} : minS [.int a, .int b] = some (.int (min a b)) := Eq.trans rfl rfl
@[simp] theorem ev_maxSS {a b : Int} : maxS [.int a, .int b] = some (.int (max a b)) := Eq.trans rfl rfl
@[simp] theorem ev_revA {a : SE} : sRevA a ρ c = (a ρ c).bind fun p => (match p.1 with
  | .tuple xs => if few xs.length = true then some (.tuple xs.reverse, p.2) else none
  | _ => none) := Eq.trans rfl rfl
@[simp] theorem ev_int1B {b : Bool} : intD [.bool b] = some (.int (if b then 1 else 0)) := Eq.trans rfl rfl
@[simp] theorem ev_seqL {xs : List D} : seqD (.list xs) = some xs := Eq.trans rfl rfl
@[simp] theorem ev_seqT {xs : List D} : seqD (.tuple xs) = some xs := Eq.trans rfl rfl
@[simp] theorem ev_truB {b : Bool} : truD (.bool b) = some b := Eq.trans rfl rfl
@[simp] theorem ev_isN {d : D} : isND d .none = some (.bool (match d with | .none => true | _ => false)) := Eq.trans rfl rfl
end
/-! ### running -/
section
variable {ρ ρ' ρ1 ρ0 : Rho} {c c' c1 c0 : Dr} {f g h : SS} {r : Fl × Rho × Dr}
theorem seq_run (h1 : f ρ c = some (.nx, ρ1, c1)) (h2 : g ρ1 c1 = some r) : sSeq f g ρ c = some r := by unfold sSeq; rw [h1]; exact h2
theorem seq_rt {d : D} (h1 : f ρ c = some (.rt d, ρ1, c1)) : sSeq f g ρ c = some (.rt d, ρ1, c1) := by unfold sSeq; rw [h1]; rfl
theorem then_run {is : List Nat} (h1 : f ρ c = some (.nx, ρ1, c1)) (e : unset is ρ1 = ρ') : sThen is f ρ c = some (.nx, ρ', c1) := by unfold sThen; rw [h1, ← e]; rfl
theorem then_rt {is : List Nat} {d : D} (h1 : f ρ c = some (.rt d, ρ1, c1)) : sThen is f ρ c = some (.rt d, ρ1, c1) := by unfold sThen; rw [h1]; rfl
theorem frz_run {i : Nat} {ds : List D} (e : ρ[i]? = some (.ol ds)) (h1 : f (ρ.set i (.im (.list ds))) c = some r) : sFrz i f ρ c = some r := by unfold sFrz; rw [e]; exact h1
theorem ret_run {a : SE} {d : D} (h1 : a ρ c = some (d, c1)) : sRet a ρ c = some (.rt d, ρ, c1) := by unfold sRet; rw [h1]; rfl
theorem ifT {t : SB} (h0 : t ρ c = some (true, c1)) (h1 : f ρ c1 = some r) : sIfS t f g ρ c = some r := by unfold sIfS; rw [h0]; exact h1
theorem ifF {t : SB} (h0 : t ρ c = some (false, c1)) (h1 : g ρ c1 = some r) : sIfS t f g ρ c = some r := by unfold sIfS; rw [h0]; exact h1
/-- runs to a result of which P holds -/
def Runs (f : SS) (ρ : Rho) (c : Dr) (P : Fl × Rho × Dr → Prop) : Prop := ∃ r, f ρ c = some r ∧ P r
abbrev IsRt (d : D) : Fl × Rho × Dr → Prop := fun r => r.1 = .rt d
theorem bodyP_of {m n : Nat} {ds : List D} {d : D} (hm : ds.length = m) (h1 : Runs f (ds.map .im ++ List.replicate n .un) (0, 0) (IsRt d)) : bodyP m n f ds = some d := by
  obtain ⟨⟨fl, ρ, c⟩, e1, e2⟩ := h1
  obtain rfl : fl = .rt d := e2
  unfold bodyP; rw [if_pos hm, e1]; rfl
/-- a drawing def's result -/
theorem bodyD_of {m n : Nat} {ds : List D} {P : D → Dr → Prop} (hm : ds.length = m) (h1 : Runs f (.dr :: (ds.map .im ++ List.replicate n .un)) c fun r => ∃ d, r.1 = .rt d ∧ P d r.2.2) : ∃ d c', bodyD m n f ds c = some (d, c') ∧ P d c' := by
  obtain ⟨⟨fl, ρ, c'⟩, e1, d, e2, e3⟩ := h1
  obtain rfl : fl = .rt d := e2
  refine ⟨d, c', ?_, e3⟩
  unfold bodyD; rw [if_pos hm, e1]; rfl
section
variable {P : Fl × Rho × Dr → Prop}
theorem Runs.seq (h1 : f ρ c = some (.nx, ρ1, c1)) (h2 : Runs g ρ1 c1 P) : Runs (sSeq f g) ρ c P := by
  obtain ⟨r, e1, e2⟩ := h2
  exact ⟨r, seq_run h1 e1, e2⟩
theorem Runs.rt {d : D} (h1 : f ρ c = some (.rt d, ρ1, c1)) (h2 : P (.rt d, ρ1, c1)) : Runs (sSeq f g) ρ c P := ⟨_, seq_rt h1, h2⟩
theorem Runs.frz {i : Nat} {ds : List D} (e : ρ[i]? = some (.ol ds)) (h1 : Runs f (ρ.set i (.im (.list ds))) c P) : Runs (sFrz i f) ρ c P := by
  obtain ⟨r, e1, e2⟩ := h1
  exact ⟨r, frz_run e e1, e2⟩
theorem Runs.ret {a : SE} {d : D} (h1 : a ρ c = some (d, c1)) (h2 : P (.rt d, ρ, c1)) : Runs (sRet a) ρ c P := ⟨_, ret_run h1, h2⟩
theorem Runs.ifT {t : SB} (h0 : t ρ c = some (true, c1)) (h1 : Runs f ρ c1 P) : Runs (sIfS t f g) ρ c P := by
  obtain ⟨r, e1, e2⟩ := h1
  exact ⟨r, DL.ifT h0 e1, e2⟩
theorem Runs.ifF {t : SB} (h0 : t ρ c = some (false, c1)) (h1 : Runs g ρ c1 P) : Runs (sIfS t f g) ρ c P := by
  obtain ⟨r, e1, e2⟩ := h1
  exact ⟨r, DL.ifF h0 e1, e2⟩
/-- a guard that does not hold: if t: return .. -/
theorem Runs.pass {t : SB} (h0 : t ρ c = some (false, c1)) (h1 : Runs h ρ c1 P) : Runs (sSeq (sIfS t f sNext) h) ρ c P := .seq (DL.ifF h0 rfl) h1
theorem Runs.leave {t : SB} {a : SE} {d : D} {c2 : Dr} (h0 : t ρ c = some (true, c1)) (h1 : a ρ c1 = some (d, c2)) (h2 : P (.rt d, ρ, c2)) : Runs (sSeq (sIfS t (sRet a) g) h) ρ c P := .rt (DL.ifT h0 (ret_run h1)) h2
end
theorem forS_run {tg : D → Rho → Option Rho} {body : SS} : ∀ {xs : List D} (st : Nat → Rho) (cc : Nat → Dr), (∀ i x, xs[i]? = some x → ∃ ρ1, tg x (st i) = some ρ1 ∧ body ρ1 (cc i) = some (.nx, st (i + 1), cc (i + 1))) → forS tg body xs (st 0) (cc 0) = some (.nx, st xs.length, cc xs.length)
  | [], st, cc, _ => rfl
  | x :: xs, st, cc, h => by
    obtain ⟨ρ1, e1, e2⟩ := h 0 x rfl
    show ((tg x (st 0)).bind fun ρ1 => _) = _
    rw [e1]
    show ((body ρ1 (cc 0)).bind fun r => _) = _
    rw [e2]
    exact forS_run (fun i => st (i + 1)) (fun i => cc (i + 1)) fun i y e => h (i + 1) y e
theorem for_run {fi : SI} {tg : D → Rho → Option Rho} {body : SS} {xs : List D} (st : Nat → Rho) (h0 : fi ρ c = some (xs, c1)) (h1 : ρ = st 0) (h2 : ∀ i x, xs[i]? = some x → ∃ ρ1, tg x (st i) = some ρ1 ∧ body ρ1 c1 = some (.nx, st (i + 1), c1)) : sFor fi tg body ρ c = some (.nx, st xs.length, c1) := by
  unfold sFor
  rw [h0, h1]
  exact forS_run st (fun _ => c1) h2
/-- a comprehension, item by item -/
theorem lcS_run {tg : D → Rho → Option Rho} {t : SB} {e : SE} {ρ0 : Rho} : ∀ {xs : List D} (f : D → Option D), (∀ x ∈ xs, ∃ ρ1, tg x ρ0 = some ρ1 ∧ match f x with
    | some y => t ρ1 c = some (true, c) ∧ e ρ1 c = some (y, c)
    | none => t ρ1 c = some (false, c)) → lcS tg t e ρ0 xs c = some (xs.filterMap f, c)
  | [], f, _ => rfl
  | x :: xs, f, h => by
    obtain ⟨ρ1, e1, e2⟩ := h x List.mem_cons_self
    have ih := lcS_run (xs := xs) f fun y hy => h y (List.mem_cons_of_mem _ hy)
    show ((tg x ρ0).bind fun ρ1 => _) = _
    rw [e1]
    show ((t ρ1 c).bind fun p => _) = _
    rw [List.filterMap_cons]
    cases q : f x with
    | none =>
      rw [q] at e2
      rw [show t ρ1 c = some (false, c) from e2]
      exact ih
    | some y =>
      rw [q] at e2
      rw [show t ρ1 c = some (true, c) from e2.1]
      show ((e ρ1 c).bind fun q => (lcS tg t e ρ0 xs q.2).bind fun r => some (q.1 :: r.1, r.2)) = _
      rw [show e ρ1 c = some (y, c) from e2.2]
      show (lcS tg t e ρ0 xs c).bind (fun r => some (y :: r.1, r.2)) = _
      rw [ih]
      rfl
theorem lcS_map {tg : D → Rho → Option Rho} {e : SE} {ρ0 : Rho} {xs : List D} (f : D → D) (h : ∀ x ∈ xs, ∃ ρ1, tg x ρ0 = some ρ1 ∧ e ρ1 c = some (f x, c)) : lcS tg sYes e ρ0 xs c = some (xs.map f, c) := by
  rw [lcS_run (c := c) (fun x => some (f x)) fun x hx => ?_]
  · rw [List.filterMap_eq_map']
  · obtain ⟨ρ1, e1, e2⟩ := h x hx
    exact ⟨ρ1, e1, rfl, e2⟩
/-- a comprehension that draws -/
theorem lcS_draw {tg : D → Rho → Option Rho} {e : SE} {ρ0 : Rho} (G : D → Prop) (OK : Dr → Prop) : ∀ {xs : List D} {c : Dr}, OK c → (∀ x ∈ xs, ∃ ρ1, tg x ρ0 = some ρ1 ∧ ∀ c, OK c → ∃ d c', e ρ1 c = some (d, c') ∧ G d ∧ OK c') → ∃ ds c', lcS tg sYes e ρ0 xs c = some (ds, c') ∧ ds.length = xs.length ∧ (∀ d ∈ ds, G d) ∧ OK c'
  | [], c, hc, _ => ⟨[], c, rfl, rfl, fun _ h => (by cases h), hc⟩
  | x :: xs, c, hc, h => by
    obtain ⟨ρ1, e1, e2⟩ := h x List.mem_cons_self
    obtain ⟨d, c1, e3, hd, hc1⟩ := e2 c hc
    obtain ⟨ds, c2, e4, hl, hG, hc2⟩ := lcS_draw G OK (xs := xs) hc1 fun y hy => h y (List.mem_cons_of_mem _ hy)
    refine ⟨d :: ds, c2, ?_, by rw [List.length_cons, List.length_cons, hl], fun z hz => ?_, hc2⟩
    · show ((tg x ρ0).bind fun ρ1 => _) = _
      rw [e1]
      show ((e ρ1 c).bind fun q => (lcS tg sYes e ρ0 xs q.2).bind fun r => some (q.1 :: r.1, r.2)) = _
      rw [e3]
      show (lcS tg sYes e ρ0 xs c1).bind (fun r => some (d :: r.1, r.2)) = _
      rw [e4]
      rfl
    · rcases List.mem_cons.mp hz with w | w
      · rw [w]; exact hd
      · exact hG z w
end
/-! ### lists of ints -/
def iL (xs : List Int) : List D := xs.map .int
@[simp] theorem iL_len {xs : List Int} : (iL xs).length = xs.length := by unfold iL; rw [List.length_map]
def gI (xs : List Int) (i : Nat) : Int := xs.getD i 0
theorem iL_get {xs : List Int} {i : Nat} : (iL xs)[i]? = xs[i]?.map .int := by unfold iL; rw [List.getElem?_map]
theorem iL_app {xs ys : List Int} : iL (xs ++ ys) = iL xs ++ iL ys := by unfold iL; rw [List.map_append]
theorem atI_iL {xs : List Int} {j : Nat} (h : j < xs.length) : atI (iL xs) (j : Int) = some (.int (gI xs j)) := by
  refine atI_nat ?_
  unfold gI
  rw [iL_get, List.getElem?_eq_getElem h]
  simp [List.getD, List.getElem?_eq_getElem h]
theorem atI_nil {α : Type} {xs : List α} {j : Nat} (h : j < xs.length) : atI xs (j : Int) = some xs[j] := atI_nat (List.getElem?_eq_getElem h)
theorem few_of {n : Nat} (h : n ≤ 1000000) : few n = true := decide_eq_true h
theorem okR_of {i : Int} (h : -1000000 ≤ i) (h' : i ≤ 1000000) : okR i = true := decide_eq_true (by omega)
theorem rngL_lt {lo : Int} {n i : Nat} {d : D} (h : (rngL lo n)[i]? = some d) : i < n ∧ d = .int (lo + i) := rngL_get h
end DL
/-! EXg: what the written part says of the own error classes; defs of the handled exception by their meanings. -/
namespace EX
open PySem PySem.Spec PyProof.Rows L2 DL L2H
/-- the class named x, at C: whether S is under it -/
structure OneC (K : PySem.W.Frag) (mg : Str → Option Value) (S C : Addr) (x : Str) (b : Bool) : Prop where
  g : mg x = some (.ref C)
  i : PySem.W.isClsIn K C = true
  t : PySem.W.typeIn K (.ref C) = some (.type "type")
  s : PySem.W.subIn K (.ref S) (.ref C) = some b
/-- the class that is raised, at S, and the caught one, at F -/
structure ShortC (K : PySem.W.Frag) (mg : Str → Option Value) (S F : Addr) : Prop where
  g : mg "Short" = some (.ref S)
  x : PySem.W.excIn K S [.type "ValueError", .type "Exception", .type "BaseException", .type "object"] "ValueError.__new__" = true
  kp : PySem.W.keepIn K (.ref S) = true
  bs : PySem.W.subIn K (.ref S) (.type "BaseException") = some true
  t : PySem.W.typeIn K (.ref S) = some (.type "type")
  me : PySem.W.subIn K (.ref S) (.ref S) = some true
  v : PySem.W.subIn K (.ref S) (.type "ValueError") = some true
  e : ExcC K S
  fg : mg "FrameError" = some (.ref F)
  fx : PySem.W.exmOne K (.ref S) (.ref F) = some true
theorem OneC.kit {K : PySem.W.Frag} {mg : Str → Option Value} {S C : Addr} {x : Str} {b : Bool} (h : OneC K mg S C x b) (me : PySem.W.subIn K (.ref S) (.ref S) = some true) : PySem.W.kitOne K (.ref S) (.ref C) = some b := by
  have e2 : ((PySem.W.clsIn K C).isSome && PySem.W.typeIn K (.ref C) == some (.type "type")) = true := by
    rw [h.t, show (PySem.W.clsIn K C).isSome = true from h.i]; rfl
  unfold PySem.W.kitOne
  split
  · rename_i z
    have z2 : S = C := Value.ref.inj (eq_of_beq z)
    have := h.s
    rw [← z2, me] at this
    exact this
  · show (if ((PySem.W.clsIn K C).isSome && PySem.W.typeIn K (.ref C) == some (.type "type")) = true then PySem.W.subIn K (.ref S) (.ref C) else none) = some b
    rw [if_pos e2]; exact h.s
theorem OneC.cls {K : PySem.W.Frag} {mg : Str → Option Value} {S C : Addr} {x : Str} {b : Bool} (_ : OneC K mg S C x b) : ∀ z, RelV (.ref C) z → z = .ref C := fun _ r => r
/-- target (x, y) of a pair, while an exception is handled -/
theorem pg_tupHK {X : Cx} {K : PySem.W.Frag} {es : List Expr} {k : Nat} {t : TGs} {n : Nat} {pos : Pos} (hK : X.K = K) (hc : HotC X) (h : PGs X es t)
    (hn : (assignEach es X.env).length = n := by rfl) (hst : (assignEach es X.env).findIdx? (·.1) = none := by rfl) : PG X (.Tuple es k pos) (gTup K n t) := by
  subst hK; exact pg_tupH hc h hn hst
section
variable {P : Program} {w : World} {K : PySem.W.Frag} {mg : Str → Option Value} {base : Heap} {x y : Str} {st : Stmt} {f : Addr} {fd : FuncData} {N : List Str} {k n : Nat} {C : Addr}
theorem rl_startE {B H : Hp} {a : Addr} (s : Same B H) (hl : N.length = n + 1) : Rl K none B (L2.start N [.ref a]) H (.op (.ref a) :: List.replicate n .un) (0, 0) := by
  have un : ∀ {i : Nat} {s : Sl}, (List.replicate n Sl.un)[i]? = some s → s = .un := fun {i s} e => (List.mem_replicate.mp (List.mem_of_getElem? e)).2
  refine ⟨s, fun a e => (by cases e), fun a e => (by cases e), ?_, fun i s e => ?_, fun i j s t a _ e1 _ o1 => ?_⟩
  · unfold L2.start
    rw [List.length_append, List.length_replicate, hl]
    simp only [List.length_map, List.length_cons, List.length_nil, List.length_replicate]; omega
  · match i, e with
    | 0, e => cases e; exact start_get rfl
    | i + 1, e => rw [un (show (List.replicate n Sl.un)[i]? = some s from e)]; trivial
  · match i, e1 with
    | 0, e1 => cases e1; cases o1
    | i + 1, e1 => rw [un (show (List.replicate n Sl.un)[i]? = some s from e1)] at o1; cases o1
end
end EX
/-! EXh: defs that raise an own error, on data. -/
namespace EX
open PySem PySem.Spec PyProof.Rows L2 DL
/-- a def that raises an S, at the arguments that cond tells -/
def spR (K : PySem.W.Frag) (S : Addr) (cond : List D → Prop) : Sp := fun vs H _ E => ∃ (ds : List D) (B : Hp), Same B H ∧ DL.DpAll K B vs ds ∧ cond ds ∧ ∀ B' H', Grow B H B' H' → E (.ref S) none H'
section
variable {P : Program} {w : World} {K : PySem.W.Frag} {mg : Str → Option Value} {base : Heap} {x qual : Str} {st : Stmt} {f : Addr} {fd : FuncData} {N ps : List Str} {k n : Nat} {S : Addr}
/-- where the body's reading ends at the raise -/
def condR (m n : Nat) (g : SS) (ds : List D) : Prop := ds.length = m ∧ ∃ ρ' c', g (ds.map .im ++ List.replicate n .un) (0, 0) = some (.ct, ρ', c')
theorem okR {g : SS} (F : Fun K x qual st f fd) (Sc : FnScope N ps (defScope st)) (hn : N.length = ps.length + n)
    (hb : ∀ (cdv : Value) (A : Around) (l : List Env) (s : Shared) (H : Hp) (E : XK), Room k (A.deeper (envOfC qual (defScope st) s.heap.objs.size f cdv)) → ∃ t t', PSs (cxOf (L2N.CX P w) P w K mg base N qual (defScope st) f cdv A l s H E) (defBody st) t ∧ ImpS K t' g ∧
      ∀ nx rt bk σ H, t' ⟨nx, rt, bk, fun _ H' => E (.ref S) none H'⟩ σ H → t ⟨nx, rt, fun _ _ => False, fun _ _ => False⟩ σ H) :
    FnOk P w K mg base (L2N.CX P w) (k + 1) f fd ps (spR K S (condR ps.length n g)) := by
  have hlen : ∀ vs H Q E, spR K S (condR ps.length n g) vs H Q E → vs.length = ps.length := fun vs H Q E ⟨ds, B, _, da, c, _⟩ => by rw [dpAll_len da, c.1]
  obtain ⟨oc, od, kV, doc, pm, an, cdv, ct, osl, rfl, lk, hcd⟩ := F.ex
  refine fn_of lk hcd Sc hlen fun A l s H vs Q E hr h => ?_
  have hl := hlen vs H Q E h
  obtain ⟨t, t', ht, im, z⟩ := hb cdv A l s H E hr
  obtain ⟨ds, B, sB, da, ⟨hd, ρ', c', e⟩, q⟩ := h
  have R := rl_start (N := N) sB da (n := n) (by rw [hl]; exact hn)
  refine ⟨t, ht, z _ _ (fun _ _ => False) _ _ (im none B (L2.start N vs) H _ (0, 0) _ _ R e fun B' σ' H' R' y => q B' H' ?_)⟩
  have no : ∀ a, ¬ Owned (ds.map Sl.im ++ List.replicate n Sl.un) (L2.start N vs) a := noOwned fun i s e => noOwn_start e
  exact ⟨y.bb, R'.sub, fun a o e => y.keep a o (fun e => nomatch e) e (no a), fun a o e1 e2 => (y.fresh a o e1 e2).elim id fun u => absurd u (no a)⟩
end
end EX
/-! EXi: a lambda without parameters handed to a def that catches; the exception's context is known to be None. -/
namespace EX
open PySem PySem.Spec PyProof.Rows L2 LamX
abbrev qL (X : Cx) : Str := X.env.qual ++ "<lambda>"
/-- the lambda's object -/
abbrev objL (X : Cx) (params : Arguments) (body : Expr) (scope : Scope) (pm : Value) (c' : Addr) (ctv : Value) : Obj := PySem.W.kla_obj "<lambda>" (qL X) params body scope (cloFrom X.env.cells scope.names []) pm c' ctv
/-- the context of the lambda's body: what it lets out has the context None -/
abbrev lamCxN (X : Cx) (A : Around) (l : List Env) (s : Shared) (H : Hp) (E : XK) (scope : Scope) (f c' : Addr) : Cx :=
  (lamCx X A l s H E scope f c').wish fun e s' => wpAny (model X.prog X.w) (A.deeper (lamEnv X scope s.heap.objs.size f c')) (leaving (lamEnv X scope s.heap.objs.size f c') e) (fun _ z => L2N.CX X.prog X.w l H s E e z) (fun e' z => L2N.CX X.prog X.w l H s E e' z) s'
theorem takes_lam {X : Cx} {A : Around} {l : List Env} {s : Shared} {H : Hp} {E : XK} {scope : Scope} {f c' : Addr} : L2N.Takes (lamCxN X A l s H E scope f c') (fun cls d _ H => E cls d H) := L2N.takes_of (E := E) rfl rfl rfl rfl
/-- the context of the def that got the lambda, within its try -/
abbrev cxT (X : Cx) (Ng : List Str) (x : Str) (sg : Scope) (g : Addr) (cdg : Value) (s : Shared) (H : Hp) (pn : List (Addr × Obj)) (xe : Value → Shared → Prop) : Cx := (cxOf CX0 X.prog X.w X.K X.mg X.base Ng x sg g cdg X.A X.stack s H E0).tr pn xe
section
variable {X : Cx} {pins : List (Addr × Obj)} {σ : L2.St} {H : Hp} {s : Shared}
theorem pe_actN {Ng : List Str} {x : Str} {sg : Scope} {g f c' : Addr} {cdg pm ctv : Value} {params : Arguments} {body : Expr} {scope : Scope} {k i : Nat} {a : Str} {pn : List (Addr × Obj)} {xe : Value → Shared → Prop} {W : WX} {E : XK} {tb : TE} {p1 p2 : Pos}
    (I : Inv X pins σ H s) (L : LamS X.env.scope scope) (hf : s.heap.get? f = some (objL X params body scope pm c' ctv)) (hfn : H f = none) (hfr : f ∉ frs X.stack)
    (hbind : bindArgs (PySem.W.kla_fn "<lambda>" (qL X) params body scope (cloFrom X.env.cells scope.names []) pm (.ref c') ctv) ⟨[], []⟩ = pure []) (tk : L2N.Takes (cxT X Ng x sg g cdg s H pn xe) W)
    (hr : Room (k + 1) (X.A.deeper (envOfC x sg s.heap.objs.size g cdg))) (hbody : ∀ (A : Around) (l : List Env) (s : Shared) (H : Hp), Room k (A.deeper (lamEnv X scope s.heap.objs.size f c')) → PE (lamCxN X A l s H E scope f c') body tb)
    (hN : Ng[i]? = some a) (hv : Vis sg a) (hd : (a == ("__debug__" : Str)) = false := by decide) (hcd : (a == ("__classdict__" : Str)) = false := by decide) :
    PE (cxT X Ng x sg g cdg s H pn xe) (.Call (.Name a p1) [] [] p2) (fun σZ HZ Q => σZ[i]? = some (some (.ref f)) ∧ HZ c' = some (CodeO c' (qL X)) ∧ (∀ cls d H', E cls d H' → W cls d σZ H') ∧ tb σ HZ Q) := by
  refine ⟨fun pZ sZ σZ HZ Q IZ ⟨hs, hc, hw, ht⟩ => wpAny_Call_Name_kw (thn ((pe_var (pos := p1) (i := i) hN hv hd hcd).run pZ sZ σZ HZ (fun v H1 => v = .ref f ∧ H1 = HZ) IZ ⟨.ref f, hs, rfl, rfl⟩) ?_)⟩
  rintro u s1 ⟨v, H1, I1, r1, ev, eH⟩
  subst ev eH
  cases r1
  have at1 : s1.heap.get? f = some (objL X params body scope pm c' ctv) := I1.base.keep f _ hf hfn hfr (fun z => nomatch (show f ∈ ([] : List Addr) from z))
  have un : Un (frs X.stack) [] H H1 s.heap s1.heap := I1.base
  obtain ⟨⟨oc, vs, t, hoc, hdc, hvc⟩, _, _⟩ := I1.hok c' _ hc
  refine PySem.W.callWith_F0 ⟨_, _, _, _, at1⟩ (wpAny_call (codeAny_mono (R := CR (L2N.CX X.prog X.w) (envOfC x sg s.heap.objs.size g cdg :: X.stack) X.prog X.w H1 s1 Q E) (PySem.W.kla_callFunE hr.depth at1 rfl L.co L.gen rfl ⟨c', oc, vs, t, rfl, hoc, hdc, hvc⟩ ?_) fun r s' hq => ?_))
  · rw [show (⟨([] : List Value) ++ [], []⟩ : Args) = ⟨[], []⟩ from rfl, hbind]
    refine wpAny_pure (wpAny_newFunctionEnv (fun y hy => (L.own y hy).2) (fun y hy => absurd hy (by simp)) (fun h₁ hns hsb => ⟨I1.nolimit.fresh _ hsb, ?_⟩) L.kind)
    have kp : ∀ b o, s1.heap.get? b = some o → h₁.get? b = some o := fun b o e => hsb.extBut b o (Nat.ne_of_lt (Heap.lt_size e)) (Heap.get?_push_of_some _ e)
    have J0 := lam_start2 (E := E) (tk := s1.toks + ([] : List (Str × Value)).length) (c' := c') (f := f) I L I1.env0 hr.hd un hns kp
    have J := J0.wish fun e s' => wpAny (model X.prog X.w) ((X.A.deeper (envOfC x sg s.heap.objs.size g cdg)).deeper (lamEnv X scope s1.heap.objs.size f c')) (leaving (lamEnv X scope s1.heap.objs.size f c') e) (fun _ z => L2N.CX X.prog X.w (envOfC x sg s.heap.objs.size g cdg :: X.stack) H1 s1 E e z) (fun e' z => L2N.CX X.prog X.w (envOfC x sg s.heap.objs.size g cdg :: X.stack) H1 s1 E e' z) s'
    exact PySem.W.kla_codeExpr (wpAny_mono ((hbody _ _ s1 H1 (hr.deeper _)).run [] _ _ H1 Q J ht) (fun v s' ⟨w', H', J', rv, q⟩ => ⟨w', H', J'.os, J'.bare, J'.base, J'.hok, rv, q⟩) fun e s' hq => hq)
  · match r, hq with
    | .error e, z => exact tk e s' (L2N.XE.of_call I1 hw z)
    | .ok (.ret u), z => exact I1.after z
end
end EX
/-! EXj: a law's text whose last statements, reached at the end ct, make lambdas. -/
namespace EX
open PySem PySem.Spec PyProof.Rows L2 DL LamX
section
variable {K : PySem.W.Frag}
/-- where such a text leads: nx, or on to tl at ct -/
def PostW (K : PySem.W.Frag) (tl : TS) (D : Ends) (ad : Option Addr) (B : Hp) (σ : L2.St) (H : Hp) (ρ : Rho) : Fl × Rho × Dr → Prop
  | (.nx, ρ', c') => ∀ B' σ' H', Rl K ad B' σ' H' ρ' c' → FwS ad B σ H ρ B' σ' H' ρ' → D.nx σ' H'
  | (.ct, ρ', c') => ∀ B' σ' H', Rl K ad B' σ' H' ρ' c' → FwS ad B σ H ρ B' σ' H' ρ' → tl D σ' H'
  | _ => False
theorem PostW.trans {tl : TS} {D : Ends} {ad : Option Addr} {B B1 : Hp} {σ σ1 : L2.St} {H H1 : Hp} {ρ ρ1 : Rho} {c c1 : Dr} {r : Fl × Rho × Dr} (R : Rl K ad B σ H ρ c) (R1 : Rl K ad B1 σ1 H1 ρ1 c1) (x : FwS ad B σ H ρ B1 σ1 H1 ρ1)
    (h : PostW K tl D ad B σ H ρ r) : PostW K tl D ad B1 σ1 H1 ρ1 r := by
  match r, h with
  | (.nx, ρ', c'), h => exact fun B' σ' H' R' y => h B' σ' H' R' (FwS.trans R R1 x y)
  | (.ct, ρ', c'), h => exact fun B' σ' H' R' y => h B' σ' H' R' (FwS.trans R R1 x y)
/-! ### tables aside -/
def nt (B : Hp) : Hp := fun a => match B a with
  | some (.tbl _) => none
  | o => o
theorem nt_some {B : Hp} {a : Addr} {o : HO} (h : nt B a = some o) : B a = some o ∧ ∀ ps, o ≠ .tbl ps := by
  unfold nt at h
  split at h
  · cases h
  · rename_i hn
    exact ⟨h, fun ps z => hn ps (by rw [h, z])⟩
theorem nt_of {B : Hp} {a : Addr} {o : HO} (h : B a = some o) (n : ∀ ps, o ≠ .tbl ps) : nt B a = some o := by
  unfold nt
  split
  · rename_i ps e
    rw [h] at e
    exact absurd (Option.some.inj e) (n ps)
  · exact h
mutual
theorem dp_nt {B : Hp} : ∀ (d : D) (v : V), DL.Dp K B v d → DL.Dp K (nt B) v d
  | .none, _, h => by cases h; exact .non
  | .bool b, _, h => by cases h; exact .bl b
  | .int i, _, h => by cases h; exact .int i
  | .str x, _, h => by cases h; exact .str x
  | .list ds, _, h => by
    cases h with
    | lst hs ha => exact .lst (nt_of hs fun ps z => by cases z) (dpAll_nt ds _ ha)
  | .tuple ds, _, h => by
    cases h with
    | tup hs ha => exact .tup (nt_of hs fun ps z => by cases z) (dpAll_nt ds _ ha)
  | .dict _, _, h => by cases h
theorem dpAll_nt {B : Hp} : ∀ (ds : List D) (vs : List V), DL.DpAll K B vs ds → DL.DpAll K (nt B) vs ds
  | [], _, h => by cases h; exact .nil
  | d :: ds, _, h => by
    cases h with
    | cons h1 h2 => exact .cons (dp_nt d _ h1) (dpAll_nt ds _ h2)
end
theorem same_nt {B H H1 : Hp} (s : Same B H) (e : ExtN H H1) : Same (nt B) H1 := fun a o h => e a o (s a o (nt_some h).1) (nt_some h).2
theorem sqL_ext {H H' : Hp} {a : Addr} {ns : List Int} (h : SqL K H a (ns.map V.int)) (e : ExtN H H') : SqL K H' a (ns.map V.int) := by
  rcases h with (h | ⟨o, h⟩) | h
  · exact .inl (.inl (e _ _ h fun ps z => by cases z))
  · exact .inl (.inr ⟨o, e _ _ h fun ps z => by cases z⟩)
  · exact .inr h
end
end EX
/-! EXk: a law's own def whose last statements make lambdas. -/
namespace EX
open PySem PySem.Spec PyProof.Rows L2 DL LamX
section
variable {K : PySem.W.Frag}
/-- as spLaw, the tables of code objects in sight -/
def spLawT (K : PySem.W.Frag) (T : List (Addr × Str)) : Sp := fun vs H Q _ => ∃ (a : Addr) (ns : List Int), vs = [.ref a] ∧ SqL K H a (ns.map V.int) ∧ ns.length ≤ 63 ∧ Tabs T H ∧ ∀ H', Q (.bl true) H'
section
variable {P : Program} {w : World} {mg : Str → Option Value} {base : Heap} {st : Stmt} {f : Addr} {N : List Str} {k n i j : Nat} {M : Int} {kV doc pm ct oc cd : Value} {od an : Option Addr} {osl : Array (Option Value)} {cond : List D → Prop} {T : List (Addr × Str)}
end
end
end EX
/-! EXl: what stands where tables have grown; x[j], x[k] = a, b of an own list. -/
namespace EX
open PySem PySem.Spec PyProof.Rows L2 DL LamX
section
variable {K : PySem.W.Frag} {ad : Option Addr} {B H H' : Hp} {σ : L2.St} {ρ : Rho} {c : Dr}
theorem nt_none {a : Addr} (h : B a = none) : nt B a = none := by unfold nt; rw [h]
theorem SlOk.ext {o : Option (Option V)} {s : Sl} (h : DL.SlOk K ad B H o s) (e : ExtN H H') : DL.SlOk K ad (nt B) H' o s := by
  cases s with
  | un => trivial
  | im d => obtain ⟨v, e1, r⟩ := h; exact ⟨v, e1, dp_nt _ _ r⟩
  | ol xs => obtain ⟨a, vs, e1, h1, h2, h3, h4⟩ := h; exact ⟨a, vs, e1, e _ _ h1 (fun ps z => by cases z), nt_none h2, h3, dpAll_nt _ _ h4⟩
  | od kvs => obtain ⟨a, ks, e1, h1, h2, h3, h4⟩ := h; exact ⟨a, ks, e1, e _ _ h1 (fun ps z => by cases z), nt_none h2, h3, paired_map h4 fun _ _ z => ⟨z.1, dp_nt _ _ z.2⟩⟩
  | fd kvs => obtain ⟨a, w, ks, e1, h1, h2, h3, h4⟩ := h; exact ⟨a, w, ks, e1, e _ _ h1 (fun ps z => by cases z), nt_none h2, h3, paired_map h4 fun _ _ z => ⟨z.1, dp_nt _ _ z.2⟩⟩
  | op v => exact h
  | dr => exact h
/-- all that is known of the slots stands, where tables have grown -/
theorem Rl.ext (R : DL.Rl K ad B σ H ρ c) (e : ExtN H H') : DL.Rl K ad (nt B) σ H' ρ c :=
  ⟨same_nt R.sub e, fun a ha => e _ _ (R.cell a ha) (fun ps z => by cases z), fun a ha => nt_none (R.cfree a ha), R.len, fun i s h => SlOk.ext (R.slot i s h) e, R.sep⟩
/-- x[k] = d, d known -/
def putI (i : Nat) (k : SE) (d : D) (ρ : Rho) (c : Dr) : Option (Rho × Dr) := match ρ[i]? with
  | some (.ol xs) => (k ρ c).bind fun q => match q.1 with
    | .int j => (ixN xs.length j).bind fun m => some (ρ.set i (.ol (xs.set m d)), q.2)
    | _ => none
  | _ => none
theorem put_ok {i : Nat} {u : L2.TE} {k : SE} (hk : ImpE K u k) {v : V} {d : D} {r : Rho × Dr} {Q : L2.St → Hp → Prop} (R : DL.Rl K ad B σ H ρ c) (dv : DL.Dp K B v d) (e : putI i k d ρ c = some r)
    (q : ∀ B' σ' H', DL.Rl K ad B' σ' H' r.1 r.2 → FwS ad B σ H ρ B' σ' H' r.1 → Q σ' H') : gSub (tVar i) u rSetL v σ H Q := by
  unfold putI at e
  split at e
  · rename_i xs e0
    obtain ⟨⟨kd, c2⟩, e3, e4⟩ := Option.bind_eq_some_iff.mp e
    cases kd with
    | int j =>
      obtain ⟨m, e5, e6⟩ := Option.bind_eq_some_iff.mp e4
      cases e6
      obtain ⟨p, vs, g1, g2, g3, g4, g5⟩ := R.slot i _ e0
      refine ⟨.ref p, g1, hk ad B σ H ρ c (.int j) c2 _ R e3 fun w B2 H2 y dw => ?_⟩
      have hp : H2 p = some (.lst vs) := y.keep p _ g4 g2
      obtain ⟨R3, z⟩ := (R.fw y).chOl e0 rfl g1 (dpAll_set (dp_mono y.bb _ _ dv) m (dpAll_mono y.bb _ _ g5))
      exact ⟨p, vs, j, m, rfl, dp_int dw, hp, by rw [dpAll_len g5]; exact e5, q B2 σ _ R3 (FwS.trans R (R.fw y) (FwS.ofFw R y) z)⟩
    | _ => cases e4
  · cases e
/-- x[k], x[l] = a, b -/
def sSwap (i : Nat) (k l a b : SE) : SS := fun ρ c => (a ρ c).bind fun p => (b ρ p.2).bind fun q => (putI i k p.1 ρ q.2).bind fun r => (putI i l q.1 r.1 r.2).bind fun s => some (.nx, s.1, s.2)
theorem imp_swap {i : Nat} {t t' u u' : L2.TE} {k l a b : SE} (hk : ImpE K u k) (hl : ImpE K u' l) (ha : ImpE K t a) (hb : ImpE K t' b) :
    ImpS K (tAsg (tTup (tCons t (tCons t' tNil))) (gTup K 2 (gCons (gSub (tVar i) u rSetL) (gCons (gSub (tVar i) u' rSetL) gNil)))) (sSwap i k l a b) := fun ad B σ H ρ c r D R e q => by
  obtain ⟨⟨x, c1⟩, e1, e⟩ := Option.bind_eq_some_iff.mp e
  obtain ⟨⟨y, c2⟩, e2, e⟩ := Option.bind_eq_some_iff.mp e
  obtain ⟨⟨ρ1, c3⟩, e3, e⟩ := Option.bind_eq_some_iff.mp e
  obtain ⟨⟨ρ2, c4⟩, e4, e⟩ := Option.bind_eq_some_iff.mp e
  cases e
  refine ha ad B σ H ρ c x c1 _ R e1 fun v B1 H1 f1 d1 => hb ad B1 σ H1 ρ c1 y c2 _ (R.fw f1) e2 fun w B2 H2 f2 d2 => ⟨by show 2 ≤ sizeLine; decide, fun p np => ?_⟩
  have f12 := R.trans f1 f2
  obtain ⟨g, dd⟩ := Grow.newTup (K := K) (vs := [v, w]) (ds := [x, y]) f12.bh np (.cons (dp_mono f2.bb _ _ d1) (.cons d2 .nil))
  have f3 := R.trans f12 (g.fw f12.cell)
  have R3 := R.fw f3
  refine ⟨p, [v, w], rfl, SqT.of upd_same, rfl, v, [w], rfl, put_ok hk R3 (dp_mono (f2.bb.trans g.bb) _ _ d1) e3 fun B4 σ4 H4 R4 z4 => ⟨w, [], rfl, put_ok hl R4 (dp_mono (g.bb.trans z4.bb) _ _ d2) e4 fun B5 σ5 H5 R5 z5 => ⟨rfl, ?_⟩⟩⟩
  exact q B5 σ5 H5 R5 (FwS.trans R R4 (FwS.trans R R3 (FwS.ofFw R f3) z4) z5)
end
end EX
namespace X
open PySem PySem.Spec L2 DL
def topS (i : Nat) : Stmt := PySem.Challenge.pw_framecount_k41_whole_a_bench_deed_by_dee.main.body.getD i (.Pass ⟨0, 0, 0, 0⟩)
abbrev s_is_between : Stmt := topS 15
abbrev N_is_between : List Str := ["thing", "low", "high"]
theorem sc_is_between : FnScope N_is_between ["thing", "low", "high"] (defScope s_is_between) := ⟨rfl, rfl, rfl, by decide +kernel, rfl, by decide +kernel, by decide +kernel⟩
abbrev s_is_row : Stmt := topS 16
abbrev N_is_row : List Str := ["cap", "thing", "one"]
theorem sc_is_row : FnScope N_is_row ["cap", "thing"] (defScope s_is_row) := ⟨rfl, rfl, rfl, by decide +kernel, rfl, by decide +kernel, by decide +kernel⟩
abbrev s_counts_of : Stmt := topS 17
abbrev N_counts_of : List Str := ["row", "frame", "stand"]
theorem sc_counts_of : FnScope N_counts_of ["row", "frame"] (defScope s_counts_of) := ⟨rfl, rfl, rfl, by decide +kernel, rfl, by decide +kernel, by decide +kernel⟩
abbrev s_l_draw : Stmt := topS 21
abbrev N_l_draw : List Str := ["draws", "many", "found", "wide"]
theorem sc_l_draw : FnScope N_l_draw ["draws", "many"] (defScope s_l_draw) := ⟨rfl, rfl, rfl, by decide +kernel, rfl, by decide +kernel, by decide +kernel⟩
abbrev s_l_counts : Stmt := topS 22
abbrev N_l_counts : List Str := ["row_d", "frame", "found", "stand", "whole", "place"]
theorem sc_l_counts : FnScope N_l_counts ["row_d", "frame"] (defScope s_l_counts) := ⟨rfl, rfl, rfl, by decide +kernel, rfl, by decide +kernel, by decide +kernel⟩
abbrev s_l_truly : Stmt := topS 23
abbrev N_l_truly : List Str := ["found", "due"]
theorem sc_l_truly : FnScope N_l_truly ["found", "due"] (defScope s_l_truly) := ⟨rfl, rfl, rfl, by decide +kernel, rfl, by decide +kernel, by decide +kernel⟩
abbrev s_l_of : Stmt := topS 24
abbrev N_l_of : List Str := ["draws", "some"]
theorem sc_l_of : FnScope N_l_of ["draws", "some"] (defScope s_l_of) := ⟨rfl, rfl, rfl, by decide +kernel, rfl, by decide +kernel, by decide +kernel⟩
abbrev s_l_kind_of : Stmt := topS 25
abbrev N_l_kind_of : List Str := ["e", "some", "titles", "title", "one"]
theorem sc_l_kind_of : FnScope N_l_kind_of ["e"] (defScope s_l_kind_of) := ⟨rfl, rfl, rfl, by decide +kernel, rfl, by decide +kernel, by decide +kernel⟩
abbrev s_l_refusal : Stmt := topS 26
abbrev N_l_refusal : List Str := ["e"]
theorem sc_l_refusal : FnScope N_l_refusal ["e"] (defScope s_l_refusal) := ⟨rfl, rfl, rfl, by decide +kernel, rfl, by decide +kernel, by decide +kernel⟩
abbrev s_l_told : Stmt := topS 27
abbrev N_l_told : List Str := ["deed", "found", "e"]
theorem sc_l_told : FnScope N_l_told ["deed"] (defScope s_l_told) := ⟨rfl, rfl, rfl, by decide +kernel, rfl, by decide +kernel, by decide +kernel⟩
abbrev s_l_draws : Stmt := topS 28
abbrev N_l_draws : List Str := ["script", "k", "cell"]
theorem sc_l_draws : FnScope N_l_draws ["script", "k"] (defScope s_l_draws) := ⟨rfl, rfl, rfl, by decide +kernel, rfl, by decide +kernel, by decide +kernel⟩
abbrev s_l_row : Stmt := topS 29
abbrev N_l_row : List Str := ["draws", "places", "cap_d", "far", "row_d", "place", "one"]
theorem sc_l_row : FnScope N_l_row ["draws", "places", "cap_d"] (defScope s_l_row) := ⟨rfl, rfl, rfl, by decide +kernel, rfl, by decide +kernel, by decide +kernel⟩
abbrev s_l_a_deed : Stmt := topS 30
abbrev N_l_a_deed : List Str := ["draws", "places", "place", "other", "way"]
theorem sc_l_a_deed : FnScope N_l_a_deed ["draws", "places"] (defScope s_l_a_deed) := ⟨rfl, rfl, rfl, by decide +kernel, rfl, by decide +kernel, by decide +kernel⟩
abbrev s_l_is_whole : Stmt := topS 31
abbrev N_l_is_whole : List Str := ["thing", "low", "high"]
theorem sc_l_is_whole : FnScope N_l_is_whole ["thing", "low", "high"] (defScope s_l_is_whole) := ⟨rfl, rfl, rfl, by decide +kernel, rfl, by decide +kernel, by decide +kernel⟩
abbrev s_l_bench_due : Stmt := topS 32
abbrev N_l_bench_due : List Str := ["cap_d", "row_d", "deed", "word", "some", "place"]
theorem sc_l_bench_due : FnScope N_l_bench_due ["cap_d", "row_d", "deed"] (defScope s_l_bench_due) := ⟨rfl, rfl, rfl, by decide +kernel, rfl, by decide +kernel, by decide +kernel⟩
abbrev s_l_bench_done : Stmt := topS 33
abbrev N_l_bench_done : List Str := ["bench", "deed", "word"]
theorem sc_l_bench_done : FnScope N_l_bench_done ["bench", "deed"] (defScope s_l_bench_done) := ⟨rfl, rfl, rfl, by decide +kernel, rfl, by decide +kernel, by decide +kernel⟩
abbrev s_l_stands_so : Stmt := topS 34
abbrev N_l_stands_so : List Str := ["draws", "bench", "row_d", "other", "frame", "alike"]
theorem sc_l_stands_so : FnScope N_l_stands_so ["draws", "bench", "row_d", "other"] (defScope s_l_stands_so) := ⟨rfl, rfl, rfl, by decide +kernel, rfl, by decide +kernel, by decide +kernel⟩
abbrev s_l_refused_so : Stmt := topS 35
abbrev N_l_refused_so : List Str := ["cap_d", "row_d"]
theorem sc_l_refused_so : FnScope N_l_refused_so ["cap_d", "row_d"] (defScope s_l_refused_so) := ⟨rfl, rfl, rfl, by decide +kernel, rfl, by decide +kernel, by decide +kernel⟩
abbrev s_law : Stmt := topS 36
abbrev N_law : List Str := ["script", "k", "draws", "cap_d", "row_d", "bench", "way", "others", "turn", "due", "deed", "fresh", "same"]
theorem sc_law : FnScope N_law ["script"] (defScope s_law) := ⟨rfl, rfl, rfl, by decide +kernel, rfl, by decide +kernel, by decide +kernel⟩
def S_is_between : SS := (sRet (sAndV (sIsi .int (sV 0)) (sAndV (sNotV (sIsi .bool (sV 0))) (sChain leD leD (sV 1) (sV 0) (sV 2)))))
def F_is_between : List D → Option D := bodyP 3 0 S_is_between
def S_is_row : SS := (sSeq (sIfS (sOr (sNot (sB (sIsi .tuple (sV 1)))) (sNot (sB (sChain leD leD (sC (.int 1)) (sCB lenD (sCons (sV 1) sNil)) (sC (.int (24)))))))
 (sRet (sC (.bool false)))
 sNext)
 (sRet (sCB allD (sCons (sOfL (sLc (sItT (sV 1)) (qN 2) sYes (sCall F_is_between (sCons (sV 2) (sCons (sC (.int 0)) (sCons (sV 0) sNil)))) [2])) sNil))))
def F_is_row : List D → Option D := bodyP 2 1 S_is_row
def S_counts_of : SS := (sRet (sCB tupleD (sCons (sOfL (sLc (sR1 (sCons (sOp addD (sOp subD (sCB lenD (sCons (sV 0) sNil)) (sV 1)) (sC (.int 1))) sNil)) (qN 2) sYes (sCB sumA (sCons (sSl slD (sV 0) (sP (sV 2)) (sP (sOp addD (sV 2) (sV 1)))) sNil)) [2])) sNil)))
def F_counts_of : List D → Option D := bodyP 2 1 S_counts_of
def S_l_draw : SS := (sSeq (sIfS (sB (sOp gtD (sDrIx 0 (sC (.int 0))) (sC (.int 0))))
 (sSeq (sAsg (sOp modD (sDrIx 0 (sC (.int 0))) (sV 1)) (qN 2))
 (sSeq (sDrSet 0 (sC (.int 0)) (sOp fdivD (sDrIx 0 (sC (.int 0))) (sV 1)))
 (sRet (sV 2))))
 sNext)
 (sSeq (sAsg (sC (.int 0)) (qN 2))
 (sSeq (sAsg (sC (.int 1)) (qN 3))
 (sSeq (whileS (sB (sOp ltD (sV 3) (sV 1))) (sSeq (sDrSet 0 (sC (.int 1)) (sOp modD (sOp mulD (sDrIx 0 (sC (.int 1))) (sC (.int 69621))) (sC (.int 2147483647))))
 (sSeq (sAsg (sOp addD (sOp mulD (sV 2) (sC (.int 268435456))) (sOp fdivD (sOp modD (sOp mulD (sDrIx 0 (sC (.int 1))) (sOp addD (sOp fdivD (sDrIx 0 (sC (.int 1))) (sC (.int 128))) (sC (.int 3)))) (sC (.int 2147483629))) (sC (.int 8)))) (qN 2))
 (sAsg (sOp mulD (sV 3) (sC (.int 268435456))) (qN 3)))) 3)
 (sRet (sOp modD (sV 2) (sV 1)))))))
def F_l_draw : List D → Dr → Option (D × Dr) := bodyD 1 2 S_l_draw
def S_l_counts : SS := (sSeq (sAsgL (sDispL sNil) 2)
 (sSeq (sFor (sR1 (sCons (sOp addD (sOp subD (sCB lenD (sCons (sV 0) sNil)) (sV 1)) (sC (.int 1))) sNil)) (qN 3)
 (sThen [3, 4] (sSeq (sAsg (sC (.int 0)) (qN 4))
 (sSeq (sFor (sR2 (sCons (sV 3) (sCons (sOp addD (sV 3) (sV 1)) sNil))) (qN 5)
 (sThen [5] (sAsg (sOp addD (sV 4) (sOp ixD (sV 0) (sV 5))) (qN 4))))
 (sApp 2 (sV 4))))))
 (sFrz 2 (sRet (sCB tupleD (sCons (sV 2) sNil))))))
def F_l_counts : List D → Option D := bodyP 2 4 S_l_counts
def S_l_truly : SS := (sRet (sAndV (sIsi .bool (sV 0)) (sOp eqD (sV 0) (sV 1))))
def F_l_truly : List D → Option D := bodyP 2 0 S_l_truly
def S_l_of : SS := (sRet (sOp ixD (sV 1) (sCallD F_l_draw 0 (sCons (sCB lenD (sCons (sV 1) sNil)) sNil))))
def F_l_of : List D → Dr → Option (D × Dr) := bodyD 1 0 S_l_of
def S_l_row : SS := (sSeq (sAsg (sCallD F_l_of 0 (sCons (sLst (sCons (sC (.int 1)) (sCons (sV 2) (sCons (sV 2) sNil)))) sNil)) (qN 3))
 (sSeq (sAsg (sOfL (sLc (sR1 (sCons (sV 1) sNil)) (qN 5) sYes (sCallD F_l_draw 0 (sCons (sOp addD (sV 3) (sC (.int 1))) sNil)) [5])) (qN 4))
 (sSeq (sIfS (sB (sOp eqD (sCallD F_l_draw 0 (sCons (sC (.int 4)) sNil)) (sC (.int 0))))
 (sAsg (sOfL (sLc (sItL (sV 4)) (qN 6) sYes (sOp subD (sV 2) (sV 6)) [6])) (qN 4))
 sNext)
 (sRet (sCB tupleD (sCons (sV 4) sNil))))))
def F_l_row : List D → Dr → Option (D × Dr) := bodyD 2 4 S_l_row
def S_l_a_deed : SS := (sSeq (sAsg (sCallD F_l_of 0 (sCons (sOp addD (sOp mulD (sLst (sCons (sCallD F_l_draw 0 (sCons (sV 1) sNil)) sNil)) (sC (.int 8))) (sLst (sCons (sUn negD (sC (.int 1))) (sCons (sV 1) (sCons (sC .none) (sCons (sC (.bool true)) sNil)))))) sNil)) (qN 2))
 (sSeq (sAsg (sCallD F_l_of 0 (sCons (sOp addD (sOp mulD (sLst (sCons (sCallD F_l_draw 0 (sCons (sV 1) sNil)) sNil)) (sC (.int 8))) (sLst (sCons (sUn negD (sC (.int 1))) (sCons (sV 1) (sCons (sC (.str "0")) (sCons (sC (.bool false)) sNil)))))) sNil)) (qN 3))
 (sSeq (sAsg (sCallD F_l_draw 0 (sCons (sC (.int 7)) sNil)) (qN 4))
 (sSeq (sIfS (sB (sOp eqD (sV 4) (sC (.int 0))))
 (sRet (sTup (sCons (sC (.str "turn")) sNil)))
 sNext)
 (sRet (sIfE (sB (sOp eqD (sV 4) (sC (.int 1)))) (sTup (sCons (sC (.str "exchange")) (sCons (sV 2) (sCons (sV 3) sNil)))) (sTup (sCons (sOp ixD (sLst (sCons (sC (.str "put")) (sCons (sC (.str "take")) sNil))) (sOp modD (sV 4) (sC (.int 2)))) (sCons (sV 2) sNil)))))))))
def F_l_a_deed : List D → Dr → Option (D × Dr) := bodyD 1 3 S_l_a_deed
def S_l_is_whole : SS := (sRet (sAndV (sIsi .int (sV 0)) (sAndV (sNotV (sIsi .bool (sV 0))) (sChain leD leD (sV 1) (sV 0) (sV 2)))))
def F_l_is_whole : List D → Option D := bodyP 3 0 S_l_is_whole
def S_l_bench_due : SS := (sSeq (sMany [3, 4] (sAvP (sOp ixD (sV 2) (sC (.int 0))) (sAvF (sListOf (sCons (sV 1) sNil)) sAvNil)))
 (sSeq (sFor (sItT (sSl slD (sV 2) (sP (sC (.int 1))) sNoP)) (qN 5)
 (sThen [5] (sIfS (sNot (sB (sCall F_l_is_whole (sCons (sV 5) (sCons (sC (.int 0)) (sCons (sOp subD (sCB lenD (sCons (sV 1) sNil)) (sC (.int 1))) sNil))))))
 (sRet (sTup (sCons (sC (.str "FormError NoPlace +")) sNil)))
 sNext)))
 (sSeq (sIfS (sB (sOp eqD (sV 3) (sC (.str "turn"))))
 (sRet (sTup (sCons (sC (.str "there")) (sCons (sRevA (sV 1)) sNil))))
 sNext)
 (sSeq (sIfS (sB (sOp eqD (sV 3) (sC (.str "exchange"))))
 (sSeq (EX.sSwap 4 (sOp ixD (sV 2) (sC (.int 1))) (sOp ixD (sV 2) (sC (.int 2))) (sIxO 4 (sOp ixD (sV 2) (sC (.int 2)))) (sIxO 4 (sOp ixD (sV 2) (sC (.int 1)))))
 (sFrz 4 (sRet (sTup (sCons (sC (.str "there")) (sCons (sCB tupleD (sCons (sV 4) sNil)) sNil))))))
 sNext)
 (sSeq (sIfS (sAnd (sB (sOp eqD (sV 3) (sC (.str "put")))) (sB (sOp eqD (sOp ixD (sV 1) (sOp ixD (sV 2) (sC (.int 1)))) (sV 0))))
 (sRet (sTup (sCons (sC (.str "Full NowError +")) (sCons (sOp ixD (sV 2) (sC (.int 1))) sNil))))
 sNext)
 (sSeq (sIfS (sAnd (sB (sOp eqD (sV 3) (sC (.str "take")))) (sB (sOp eqD (sOp ixD (sV 1) (sOp ixD (sV 2) (sC (.int 1)))) (sC (.int 0)))))
 (sRet (sTup (sCons (sC (.str "Empty NowError +")) (sCons (sOp ixD (sV 2) (sC (.int 1))) sNil))))
 sNext)
 (sSeq (sSetI 4 (sOp ixD (sV 2) (sC (.int 1))) (sOp addD (sIxO 4 (sOp ixD (sV 2) (sC (.int 1)))) (sIfE (sB (sOp eqD (sV 3) (sC (.str "put")))) (sC (.int 1)) (sUn negD (sC (.int 1))))))
 (sFrz 4 (sRet (sTup (sCons (sC (.str "there")) (sCons (sCB tupleD (sCons (sV 4) sNil)) sNil))))))))))))
def F_l_bench_due : List D → Option D := bodyP 3 3 S_l_bench_due


end X
namespace X
open PySem PySem.Spec L2 DL
structure TX (K : PySem.W.Frag) (mg : Str → Option Value) where
  f_is_between : Addr
  d_is_between : FuncData
  F_is_between : Fun K "is_between" "is_between" s_is_between f_is_between d_is_between
  g_is_between : mg "is_between" = some (.ref f_is_between)
  f_is_row : Addr
  d_is_row : FuncData
  F_is_row : Fun K "is_row" "is_row" s_is_row f_is_row d_is_row
  g_is_row : mg "is_row" = some (.ref f_is_row)
  f_counts_of : Addr
  d_counts_of : FuncData
  F_counts_of : Fun K "counts_of" "counts_of" s_counts_of f_counts_of d_counts_of
  g_counts_of : mg "counts_of" = some (.ref f_counts_of)
  f_l_draw : Addr
  d_l_draw : FuncData
  F_l_draw : Fun K "_law_draw" "_law_draw" s_l_draw f_l_draw d_l_draw
  g_l_draw : mg "_law_draw" = some (.ref f_l_draw)
  f_l_counts : Addr
  d_l_counts : FuncData
  F_l_counts : Fun K "_law_counts" "_law_counts" s_l_counts f_l_counts d_l_counts
  g_l_counts : mg "_law_counts" = some (.ref f_l_counts)
  f_l_truly : Addr
  d_l_truly : FuncData
  F_l_truly : Fun K "_law_truly" "_law_truly" s_l_truly f_l_truly d_l_truly
  g_l_truly : mg "_law_truly" = some (.ref f_l_truly)
  f_l_of : Addr
  d_l_of : FuncData
  F_l_of : Fun K "_law_of" "_law_of" s_l_of f_l_of d_l_of
  g_l_of : mg "_law_of" = some (.ref f_l_of)
  f_l_kind_of : Addr
  d_l_kind_of : FuncData
  F_l_kind_of : Fun K "_law_kind_of" "_law_kind_of" s_l_kind_of f_l_kind_of d_l_kind_of
  g_l_kind_of : mg "_law_kind_of" = some (.ref f_l_kind_of)
  f_l_refusal : Addr
  d_l_refusal : FuncData
  F_l_refusal : Fun K "_law_refusal" "_law_refusal" s_l_refusal f_l_refusal d_l_refusal
  g_l_refusal : mg "_law_refusal" = some (.ref f_l_refusal)
  f_l_told : Addr
  d_l_told : FuncData
  F_l_told : Fun K "_law_told" "_law_told" s_l_told f_l_told d_l_told
  g_l_told : mg "_law_told" = some (.ref f_l_told)
  f_l_draws : Addr
  d_l_draws : FuncData
  F_l_draws : Fun K "_law_draws" "_law_draws" s_l_draws f_l_draws d_l_draws
  g_l_draws : mg "_law_draws" = some (.ref f_l_draws)
  f_l_row : Addr
  d_l_row : FuncData
  F_l_row : Fun K "_law_row" "_law_row" s_l_row f_l_row d_l_row
  g_l_row : mg "_law_row" = some (.ref f_l_row)
  f_l_a_deed : Addr
  d_l_a_deed : FuncData
  F_l_a_deed : Fun K "_law_a_deed" "_law_a_deed" s_l_a_deed f_l_a_deed d_l_a_deed
  g_l_a_deed : mg "_law_a_deed" = some (.ref f_l_a_deed)
  f_l_is_whole : Addr
  d_l_is_whole : FuncData
  F_l_is_whole : Fun K "_law_is_whole" "_law_is_whole" s_l_is_whole f_l_is_whole d_l_is_whole
  g_l_is_whole : mg "_law_is_whole" = some (.ref f_l_is_whole)
  f_l_bench_due : Addr
  d_l_bench_due : FuncData
  F_l_bench_due : Fun K "_law_bench_due" "_law_bench_due" s_l_bench_due f_l_bench_due d_l_bench_due
  g_l_bench_due : mg "_law_bench_due" = some (.ref f_l_bench_due)
  f_l_bench_done : Addr
  d_l_bench_done : FuncData
  F_l_bench_done : Fun K "_law_bench_done" "_law_bench_done" s_l_bench_done f_l_bench_done d_l_bench_done
  g_l_bench_done : mg "_law_bench_done" = some (.ref f_l_bench_done)
  f_l_stands_so : Addr
  d_l_stands_so : FuncData
  F_l_stands_so : Fun K "_law_stands_so" "_law_stands_so" s_l_stands_so f_l_stands_so d_l_stands_so
  g_l_stands_so : mg "_law_stands_so" = some (.ref f_l_stands_so)
  f_l_refused_so : Addr
  d_l_refused_so : FuncData
  F_l_refused_so : Fun K "_law_refused_so" "_law_refused_so" s_l_refused_so f_l_refused_so d_l_refused_so
  g_l_refused_so : mg "_law_refused_so" = some (.ref f_l_refused_so)
  f_law : Addr
  d_law : FuncData
  F_law : Fun K "law" "law" s_law f_law d_law
  g_law : mg "law" = some (.ref f_law)
  t_MOST_PLACES : Tok
  c_MOST_PLACES : mg "MOST_PLACES" = some (.int (24) t_MOST_PLACES)
  t_MOST_CAP : Tok
  c_MOST_CAP : mg "MOST_CAP" = some (.int (9) t_MOST_CAP)
  b_ValueError : mg "ValueError" = none
  b_all : mg "all" = none
  b_bool : mg "bool" = none
  b_int : mg "int" = none
  b_isinstance : mg "isinstance" = none
  b_len : mg "len" = none
  b_list : mg "list" = none
  b_range : mg "range" = none
  b_sum : mg "sum" = none
  b_tuple : mg "tuple" = none
theorem b_is_between {K : PySem.W.Frag} {mg : Str → Option Value} (T : TX K mg) : Binds K T.d_is_between ["thing", "low", "high"] [] := T.F_is_between.binds (ps := ["thing", "low", "high"]) fun _ _ _ _ _ _ us hl => match us, hl with | [_, _, _], _ => rfl
theorem b_is_row {K : PySem.W.Frag} {mg : Str → Option Value} (T : TX K mg) : Binds K T.d_is_row ["cap", "thing"] [] := T.F_is_row.binds (ps := ["cap", "thing"]) fun _ _ _ _ _ _ us hl => match us, hl with | [_, _], _ => rfl
theorem b_counts_of {K : PySem.W.Frag} {mg : Str → Option Value} (T : TX K mg) : Binds K T.d_counts_of ["row", "frame"] [] := T.F_counts_of.binds (ps := ["row", "frame"]) fun _ _ _ _ _ _ us hl => match us, hl with | [_, _], _ => rfl
theorem b_l_draw {K : PySem.W.Frag} {mg : Str → Option Value} (T : TX K mg) : Binds K T.d_l_draw ["draws", "many"] [] := T.F_l_draw.binds (ps := ["draws", "many"]) fun _ _ _ _ _ _ us hl => match us, hl with | [_, _], _ => rfl
theorem b_l_counts {K : PySem.W.Frag} {mg : Str → Option Value} (T : TX K mg) : Binds K T.d_l_counts ["row_d", "frame"] [] := T.F_l_counts.binds (ps := ["row_d", "frame"]) fun _ _ _ _ _ _ us hl => match us, hl with | [_, _], _ => rfl
theorem b_l_truly {K : PySem.W.Frag} {mg : Str → Option Value} (T : TX K mg) : Binds K T.d_l_truly ["found", "due"] [] := T.F_l_truly.binds (ps := ["found", "due"]) fun _ _ _ _ _ _ us hl => match us, hl with | [_, _], _ => rfl
theorem b_l_of {K : PySem.W.Frag} {mg : Str → Option Value} (T : TX K mg) : Binds K T.d_l_of ["draws", "some"] [] := T.F_l_of.binds (ps := ["draws", "some"]) fun _ _ _ _ _ _ us hl => match us, hl with | [_, _], _ => rfl
theorem b_l_kind_of {K : PySem.W.Frag} {mg : Str → Option Value} (T : TX K mg) : Binds K T.d_l_kind_of ["e"] [] := T.F_l_kind_of.binds (ps := ["e"]) fun _ _ _ _ _ _ us hl => match us, hl with | [_], _ => rfl
theorem b_l_refusal {K : PySem.W.Frag} {mg : Str → Option Value} (T : TX K mg) : Binds K T.d_l_refusal ["e"] [] := T.F_l_refusal.binds (ps := ["e"]) fun _ _ _ _ _ _ us hl => match us, hl with | [_], _ => rfl
theorem b_l_told {K : PySem.W.Frag} {mg : Str → Option Value} (T : TX K mg) : Binds K T.d_l_told ["deed"] [] := T.F_l_told.binds (ps := ["deed"]) fun _ _ _ _ _ _ us hl => match us, hl with | [_], _ => rfl
theorem b_l_draws {K : PySem.W.Frag} {mg : Str → Option Value} (T : TX K mg) : Binds K T.d_l_draws ["script", "k"] [] := T.F_l_draws.binds (ps := ["script", "k"]) fun _ _ _ _ _ _ us hl => match us, hl with | [_, _], _ => rfl
theorem b_l_row {K : PySem.W.Frag} {mg : Str → Option Value} (T : TX K mg) : Binds K T.d_l_row ["draws", "places", "cap_d"] [] := T.F_l_row.binds (ps := ["draws", "places", "cap_d"]) fun _ _ _ _ _ _ us hl => match us, hl with | [_, _, _], _ => rfl
theorem b_l_a_deed {K : PySem.W.Frag} {mg : Str → Option Value} (T : TX K mg) : Binds K T.d_l_a_deed ["draws", "places"] [] := T.F_l_a_deed.binds (ps := ["draws", "places"]) fun _ _ _ _ _ _ us hl => match us, hl with | [_, _], _ => rfl
theorem b_l_is_whole {K : PySem.W.Frag} {mg : Str → Option Value} (T : TX K mg) : Binds K T.d_l_is_whole ["thing", "low", "high"] [] := T.F_l_is_whole.binds (ps := ["thing", "low", "high"]) fun _ _ _ _ _ _ us hl => match us, hl with | [_, _, _], _ => rfl
theorem b_l_bench_due {K : PySem.W.Frag} {mg : Str → Option Value} (T : TX K mg) : Binds K T.d_l_bench_due ["cap_d", "row_d", "deed"] [] := T.F_l_bench_due.binds (ps := ["cap_d", "row_d", "deed"]) fun _ _ _ _ _ _ us hl => match us, hl with | [_, _, _], _ => rfl
theorem b_l_bench_done {K : PySem.W.Frag} {mg : Str → Option Value} (T : TX K mg) : Binds K T.d_l_bench_done ["bench", "deed"] [] := T.F_l_bench_done.binds (ps := ["bench", "deed"]) fun _ _ _ _ _ _ us hl => match us, hl with | [_, _], _ => rfl
theorem b_l_stands_so {K : PySem.W.Frag} {mg : Str → Option Value} (T : TX K mg) : Binds K T.d_l_stands_so ["draws", "bench", "row_d", "other"] [] := T.F_l_stands_so.binds (ps := ["draws", "bench", "row_d", "other"]) fun _ _ _ _ _ _ us hl => match us, hl with | [_, _, _, _], _ => rfl
theorem b_l_refused_so {K : PySem.W.Frag} {mg : Str → Option Value} (T : TX K mg) : Binds K T.d_l_refused_so ["cap_d", "row_d"] [] := T.F_l_refused_so.binds (ps := ["cap_d", "row_d"]) fun _ _ _ _ _ _ us hl => match us, hl with | [_, _], _ => rfl
section
variable {P : Program} {w : World} {K : PySem.W.Frag} {mg : Str → Option Value} {base : Heap}
theorem ok_is_between (T : TX K mg) : FnOk P w K mg base CX0 1 T.f_is_between T.d_is_between ["thing", "low", "high"] (spP K F_is_between) := by
  refine okP (k := 0) (ps := ["thing", "low", "high"]) (n := 0) T.F_is_between sc_is_between rfl fun cdv A outer s H E hr => ⟨_, (pss_one (ps_ret (pe_and (pe_callB (call_isiK (K := K) rfl) (by rfl) T.b_isinstance (by decide +kernel) (pa_cons (pv 0) (pa_cons (pe_bltn (v := .ty "int") (by rfl) T.b_int (by decide +kernel) rfl) pa_nil))) (pe_and (pe_not (pe_callB (call_isiK (K := K) rfl) (by rfl) T.b_isinstance (by decide +kernel) (pa_cons (pv 0) (pa_cons (pe_bltn (v := .ty "bool") (by rfl) T.b_bool (by decide +kernel) rfl) pa_nil)))) (pe_one (pe_chain op_le op_le (pv 1) (pv 0) (pv 2))))))), ?_⟩
  exact (imp_ret (imp_andV (imp_isi (k := .int) (imp_v 0)) (imp_andV (imp_notV (imp_isi (k := .bool) (imp_v 0))) (imp_chain d_le d_le (imp_v 1) (imp_v 0) (imp_v 2)))))
theorem ok_is_row (T : TX K mg) : FnOk P w K mg base CX0 2 T.f_is_row T.d_is_row ["cap", "thing"] (spP K F_is_row) := by
  refine okP (k := 1) (ps := ["cap", "thing"]) (n := 1) T.F_is_row sc_is_row rfl fun cdv A outer s H E hr => ⟨_, (pss_cons (ps_if (PW.pt (pw_or (pt_not (pt_val (pe_callB (call_isiK (K := K) rfl) (by rfl) T.b_isinstance (by decide +kernel) (pa_cons (pv 1) (pa_cons (pe_bltn (v := .ty "tuple") (by rfl) T.b_tuple (by decide +kernel) rfl) pa_nil))))) (pw_or1 (pt_not (pt_chain op_le op_le pe_int (pe_callB (call_lenK (K := K) rfl) (by rfl) T.b_len (by decide +kernel) (pa_cons (pv 1) pa_nil)) (pe_glob (v := .int (24)) (by rfl) T.c_MOST_PLACES ⟨_, rfl⟩)))))) (pss_one (ps_ret pe_bl)) pss_nil)
 (pss_one (ps_ret (pe_callB (cr_allK (K := K) rfl rfl) (by rfl) T.b_all (by decide +kernel) (pa_cons (pe_lc (own := [("one", 2)]) (by rfl) sc_is_row.nd (pi_tupleK (K := K) rfl (pv 1)) (blkOk_by (own := [("one", 2)]) (N := N_is_row) (sc := defScope s_is_row) (by decide +kernel)) (fun _ _ _ _ _ => (pg_name (i := 2) sc_is_row.nd rfl (by first | exact Or.inl rfl | exact Or.inr rfl))) (fun _ _ _ _ _ => pts_nil) (fun _ _ _ _ _ => (pe_call (ok_is_between T) (hr.mono (by decide)) (by rfl) T.g_is_between T.F_is_between.kp (b_is_between T) .nil pass0 (pa_cons (pv 2) (pa_cons pe_int (pa_cons (pv 0) pa_nil)))))) pa_nil))))), ?_⟩
  exact (imp_seq (imp_if (imp_or (imp_not (imp_tB (imp_isi (k := .tuple) (imp_v 1)))) (imp_not (imp_test (imp_chain d_le d_le imp_int (imp_cb d_len (imp_cons (imp_v 1) imp_nil)) imp_int))))
 (imp_ret imp_bl)
 imp_next)
 (imp_ret (imp_cb d_all (imp_cons (imp_ofL (imp_lc (vs := [2]) (imp_iT (imp_v 1)) (imp_gN 2) (only_N (by decide)) mono_N imp_yes (imp_call (F := F_is_between) (imp_cons (imp_v 2) (imp_cons imp_int (imp_cons (imp_v 0) imp_nil)))))) imp_nil))))
theorem ok_counts_of (T : TX K mg) : FnOk P w K mg base CX0 1 T.f_counts_of T.d_counts_of ["row", "frame"] (spP K F_counts_of) := by
  refine okP (k := 0) (ps := ["row", "frame"]) (n := 1) T.F_counts_of sc_counts_of rfl fun cdv A outer s H E hr => ⟨_, (pss_one (ps_ret (pe_callTy (call_tupleK (K := K) rfl) (by rfl) T.b_tuple (by decide +kernel) (pa_cons (pe_lc (own := [("stand", 2)]) (by rfl) sc_counts_of.nd (pi_range1 (by rfl) T.b_range (pa_cons (pe_op (op_addK (K := K) rfl) (pe_op op_sub (pe_callB (call_lenK (K := K) rfl) (by rfl) T.b_len (by decide +kernel) (pa_cons (pv 0) pa_nil)) (pv 1)) pe_int) pa_nil)) (blkOk_by (own := [("stand", 2)]) (N := N_counts_of) (sc := defScope s_counts_of) (by decide +kernel)) (fun _ _ _ _ _ => (pg_name (i := 2) sc_counts_of.nd rfl (by first | exact Or.inl rfl | exact Or.inr rfl))) (fun _ _ _ _ _ => pts_nil) (fun _ _ _ _ _ => (pe_callB (cr_sumA (K := K) rfl rfl) (by rfl) T.b_sum (by decide +kernel) (pa_cons (pe_slice (sl_K (K := K) rfl) (pv 0) (po_some (pv 2)) (po_some (pe_op (op_addK (K := K) rfl) (pv 2) (pv 1)))) pa_nil)))) pa_nil)))), ?_⟩
  exact (imp_ret (imp_cb d_tuple (imp_cons (imp_ofL (imp_lc (vs := [2]) (imp_r1 (imp_cons (imp_op d_add (imp_op d_sub (imp_cb d_len (imp_cons (imp_v 0) imp_nil)) (imp_v 1)) imp_int) imp_nil)) (imp_gN 2) (only_N (by decide)) mono_N imp_yes (imp_cb d_sumA (imp_cons (imp_sl d_sl (imp_v 0) (imp_p (imp_v 2)) (imp_p (imp_op d_add (imp_v 2) (imp_v 1)))) imp_nil)))) imp_nil)))
theorem ok_l_draw (T : TX K mg) : FnOk P w K mg base CX0 1 T.f_l_draw T.d_l_draw ["draws", "many"] (spD K F_l_draw) := by
  refine okD (k := 0) (ps := ["many"]) (n := 2) T.F_l_draw sc_l_draw rfl fun cdv A outer s H E hr => ⟨_, (pss_cons (ps_if (pt_cmpR op_gt (pe_ix (ix_K (K := K) rfl) (pv 0) pe_int (fun _ _ => rfl)) pe_int (nomark _)) (pss_cons (ps_set (i := 2) sc_l_draw.nd rfl (by first | exact Or.inl rfl | exact Or.inr rfl) (pe_op op_mod (pe_ix (ix_K (K := K) rfl) (pv 0) pe_int (fun _ _ => rfl)) (pv 1)))
 (pss_cons (ps_asg (pe_op op_fdiv (pe_ix (ix_K (K := K) rfl) (pv 0) pe_int (fun _ _ => rfl)) (pv 1)) (pg_sub (pv 0) pe_int set_list))
 (pss_one (ps_ret (pv 2))))) pss_nil)
 (pss_cons (ps_set (i := 2) sc_l_draw.nd rfl (by first | exact Or.inl rfl | exact Or.inr rfl) pe_int)
 (pss_cons (ps_set (i := 3) sc_l_draw.nd rfl (by first | exact Or.inl rfl | exact Or.inr rfl) pe_int)
 (pss_cons (ps_while PassesOwn.never (pt_cmpR op_lt (pv 3) (pv 1) (nomark _)) (pss_cons (ps_asg (pe_op op_mod (pe_op (op_mulK (K := K) rfl) (pe_ix (ix_K (K := K) rfl) (pv 0) pe_int (fun _ _ => rfl)) pe_int) pe_int) (pg_sub (pv 0) pe_int set_list))
 (pss_cons (ps_set (i := 2) sc_l_draw.nd rfl (by first | exact Or.inl rfl | exact Or.inr rfl) (pe_op (op_addK (K := K) rfl) (pe_op (op_mulK (K := K) rfl) (pv 2) pe_int) (pe_op op_fdiv (pe_op op_mod (pe_op (op_mulK (K := K) rfl) (pe_ix (ix_K (K := K) rfl) (pv 0) pe_int (fun _ _ => rfl)) (pe_op (op_addK (K := K) rfl) (pe_op op_fdiv (pe_ix (ix_K (K := K) rfl) (pv 0) pe_int (fun _ _ => rfl)) pe_int) pe_int)) pe_int) pe_int)))
 (pss_one (ps_set (i := 3) sc_l_draw.nd rfl (by first | exact Or.inl rfl | exact Or.inr rfl) (pe_op (op_mulK (K := K) rfl) (pv 3) pe_int))))))
 (pss_one (ps_ret (pe_op op_mod (pv 2) (pv 1)))))))), ?_⟩
  exact (imp_seq (imp_if (imp_test (imp_op d_gt (imp_drIx (i := 0) imp_int) imp_int))
 (imp_seq (imp_asg (imp_op d_mod (imp_drIx (i := 0) imp_int) (imp_v 1)) (imp_gN 2))
 (imp_seq (imp_drSet (i := 0) imp_int (imp_op d_fdiv (imp_drIx (i := 0) imp_int) (imp_v 1)))
 (imp_ret (imp_v 2))))
 imp_next)
 (imp_seq (imp_asg imp_int (imp_gN 2))
 (imp_seq (imp_asg imp_int (imp_gN 3))
 (imp_seq (imp_while 3 (imp_test (imp_op d_lt (imp_v 3) (imp_v 1))) (imp_seq (imp_drSet (i := 0) imp_int (imp_op d_mod (imp_op d_mul (imp_drIx (i := 0) imp_int) imp_int) imp_int))
 (imp_seq (imp_asg (imp_op d_add (imp_op d_mul (imp_v 2) imp_int) (imp_op d_fdiv (imp_op d_mod (imp_op d_mul (imp_drIx (i := 0) imp_int) (imp_op d_add (imp_op d_fdiv (imp_drIx (i := 0) imp_int) imp_int) imp_int)) imp_int) imp_int)) (imp_gN 2))
 (imp_asg (imp_op d_mul (imp_v 3) imp_int) (imp_gN 3)))))
 (imp_ret (imp_op d_mod (imp_v 2) (imp_v 1)))))))
theorem ok_l_counts (T : TX K mg) : FnOk P w K mg base CX0 1 T.f_l_counts T.d_l_counts ["row_d", "frame"] (spP K F_l_counts) := by
  refine okP (k := 0) (ps := ["row_d", "frame"]) (n := 4) T.F_l_counts sc_l_counts rfl fun cdv A outer s H E hr => ⟨_, (pss_cons (ps_set (i := 2) sc_l_counts.nd rfl (by first | exact Or.inl rfl | exact Or.inr rfl) (pe_lst pa_nil))
 (pss_cons (ps_for PassesOwn.never rfl (pi_range1 (by rfl) T.b_range (pa_cons (pe_op (op_addK (K := K) rfl) (pe_op op_sub (pe_callB (call_lenK (K := K) rfl) (by rfl) T.b_len (by decide +kernel) (pa_cons (pv 0) pa_nil)) (pv 1)) pe_int) pa_nil)) (pg_name (i := 3) sc_l_counts.nd rfl (by first | exact Or.inl rfl | exact Or.inr rfl)) (pss_cons (ps_set (i := 4) sc_l_counts.nd rfl (by first | exact Or.inl rfl | exact Or.inr rfl) pe_int)
 (pss_cons (ps_for PassesOwn.never rfl (pi_range2 (by rfl) T.b_range (pa_cons (pv 3) (pa_cons (pe_op (op_addK (K := K) rfl) (pv 3) (pv 1)) pa_nil))) (pg_name (i := 5) sc_l_counts.nd rfl (by first | exact Or.inl rfl | exact Or.inr rfl)) (pss_one (ps_set (i := 4) sc_l_counts.nd rfl (by first | exact Or.inl rfl | exact Or.inr rfl) (pe_op (op_addK (K := K) rfl) (pv 4) (pe_ix (ix_K (K := K) rfl) (pv 0) (pv 5) (fun _ _ => rfl))))))
 (pss_one (ps_expr (pe_bm PySem.F.plainAttrs_list PySem.F.slot_list_append PySem.F.type_list_append mt_append (pv 2) (pa_cons (pv 4) pa_nil)))))))
 (pss_one (ps_ret (pe_callTy (call_tupleK (K := K) rfl) (by rfl) T.b_tuple (by decide +kernel) (pa_cons (pv 2) pa_nil)))))), ?_⟩
  exact (imp_seq (imp_asgL 2 (imp_dispL imp_nil))
 (imp_seq (imp_for (imp_r1 (imp_cons (imp_op d_add (imp_op d_sub (imp_cb d_len (imp_cons (imp_v 0) imp_nil)) (imp_v 1)) imp_int) imp_nil)) (imp_gN 3)
 (imp_then [3, 4] (imp_seq (imp_asg imp_int (imp_gN 4))
 (imp_seq (imp_for (imp_r2 (imp_cons (imp_v 3) (imp_cons (imp_op d_add (imp_v 3) (imp_v 1)) imp_nil))) (imp_gN 5)
 (imp_then [5] (imp_asg (imp_op d_add (imp_v 4) (imp_op d_ix (imp_v 0) (imp_v 5))) (imp_gN 4))))
 (imp_app (i := 2) (imp_v 4))))))
 (imp_frz 2 (imp_ret (imp_cb d_tuple (imp_cons (imp_v 2) imp_nil))))))
theorem ok_l_truly (T : TX K mg) : FnOk P w K mg base CX0 1 T.f_l_truly T.d_l_truly ["found", "due"] (spP K F_l_truly) := by
  refine okP (k := 0) (ps := ["found", "due"]) (n := 0) T.F_l_truly sc_l_truly rfl fun cdv A outer s H E hr => ⟨_, (pss_one (ps_ret (pe_and (pe_callB (call_isiK (K := K) rfl) (by rfl) T.b_isinstance (by decide +kernel) (pa_cons (pv 0) (pa_cons (pe_bltn (v := .ty "bool") (by rfl) T.b_bool (by decide +kernel) rfl) pa_nil))) (pe_one (pe_cmpR (op_eqK (K := K) rfl hr.units) (pv 0) (pv 1) (nomark _)))))), ?_⟩
  exact (imp_ret (imp_andV (imp_isi (k := .bool) (imp_v 0)) (imp_op d_eq (imp_v 0) (imp_v 1))))
theorem ok_l_of (T : TX K mg) : FnOk P w K mg base CX0 2 T.f_l_of T.d_l_of ["draws", "some"] (spD K F_l_of) := by
  refine okD (k := 1) (ps := ["some"]) (n := 0) T.F_l_of sc_l_of rfl fun cdv A outer s H E hr => ⟨_, (pss_one (ps_ret (pe_ix (ix_K (K := K) rfl) (pv 1) (pe_call (ok_l_draw T) (hr.mono (by decide)) (by rfl) T.g_l_draw T.F_l_draw.kp (b_l_draw T) .nil pass0 (pa_cons (pv 0) (pa_cons (pe_callB (call_lenK (K := K) rfl) (by rfl) T.b_len (by decide +kernel) (pa_cons (pv 1) pa_nil)) pa_nil))) (fun _ _ => rfl)))), ?_⟩
  exact (imp_ret (imp_op d_ix (imp_v 1) (imp_callD (F := F_l_draw) (i := 0) (imp_cons (imp_cb d_len (imp_cons (imp_v 1) imp_nil)) imp_nil))))
theorem ok_l_row (T : TX K mg) : FnOk P w K mg base CX0 3 T.f_l_row T.d_l_row ["draws", "places", "cap_d"] (spD K F_l_row) := by
  refine okD (k := 2) (ps := ["places", "cap_d"]) (n := 4) T.F_l_row sc_l_row rfl fun cdv A outer s H E hr => ⟨_, (pss_cons (ps_set (i := 3) sc_l_row.nd rfl (by first | exact Or.inl rfl | exact Or.inr rfl) (pe_call (ok_l_of T) (hr.mono (by decide)) (by rfl) T.g_l_of T.F_l_of.kp (b_l_of T) .nil pass0 (pa_cons (pv 0) (pa_cons (pe_lst (pa_cons pe_int (pa_cons (pv 2) (pa_cons (pv 2) pa_nil)))) pa_nil))))
 (pss_cons (ps_setLc (i := 4) (own := [("place", 5)]) (by rfl) sc_l_row.nd rfl rfl (sw_true rfl rfl rfl (by decide +kernel)) (pi_range1 (by rfl) T.b_range (pa_cons (pv 1) pa_nil)) (blkOk_by (own := [("place", 5)]) (N := N_l_row) (sc := defScope s_l_row) (by decide +kernel)) (fun _ _ _ _ _ => (pg_name (i := 5) sc_l_row.nd rfl (by first | exact Or.inl rfl | exact Or.inr rfl))) (fun _ _ _ _ _ => pts_nil) (fun _ _ _ _ _ => (pe_call (ok_l_draw T) (hr.mono (by decide)) (by rfl) T.g_l_draw T.F_l_draw.kp (b_l_draw T) .nil pass0 (pa_cons (pv 0) (pa_cons (pe_op (op_addK (K := K) rfl) (pv 3) pe_int) pa_nil)))))
 (pss_cons (ps_if (pt_cmpR (op_eqK (K := K) rfl hr.units) (pe_call (ok_l_draw T) (hr.mono (by decide)) (by rfl) T.g_l_draw T.F_l_draw.kp (b_l_draw T) .nil pass0 (pa_cons (pv 0) (pa_cons pe_int pa_nil))) pe_int (nomark _)) (pss_one (ps_setLc (i := 4) (own := [("one", 6)]) (by rfl) sc_l_row.nd rfl rfl (sw_true rfl rfl rfl (by decide +kernel)) (pi_listK (K := K) rfl (pv 4)) (blkOk_by (own := [("one", 6)]) (N := N_l_row) (sc := defScope s_l_row) (by decide +kernel)) (fun _ _ _ _ _ => (pg_name (i := 6) sc_l_row.nd rfl (by first | exact Or.inl rfl | exact Or.inr rfl))) (fun _ _ _ _ _ => pts_nil) (fun _ _ _ _ _ => (pe_op op_sub (pv 2) (pv 6))))) pss_nil)
 (pss_one (ps_ret (pe_callTy (call_tupleK (K := K) rfl) (by rfl) T.b_tuple (by decide +kernel) (pa_cons (pv 4) pa_nil))))))), ?_⟩
  exact (imp_seq (imp_asg (imp_callD (F := F_l_of) (i := 0) (imp_cons (imp_lst (imp_cons imp_int (imp_cons (imp_v 2) (imp_cons (imp_v 2) imp_nil)))) imp_nil)) (imp_gN 3))
 (imp_seq (imp_asg (imp_ofL (imp_lc (vs := [5]) (imp_r1 (imp_cons (imp_v 1) imp_nil)) (imp_gN 5) (only_N (by decide)) mono_N imp_yes (imp_callD (F := F_l_draw) (i := 0) (imp_cons (imp_op d_add (imp_v 3) imp_int) imp_nil)))) (imp_gN 4))
 (imp_seq (imp_if (imp_test (imp_op d_eq (imp_callD (F := F_l_draw) (i := 0) (imp_cons imp_int imp_nil)) imp_int))
 (imp_asg (imp_ofL (imp_lc (vs := [6]) (imp_iL (imp_v 4)) (imp_gN 6) (only_N (by decide)) mono_N imp_yes (imp_op d_sub (imp_v 2) (imp_v 6)))) (imp_gN 4))
 imp_next)
 (imp_ret (imp_cb d_tuple (imp_cons (imp_v 4) imp_nil))))))
theorem ok_l_a_deed (T : TX K mg) : FnOk P w K mg base CX0 3 T.f_l_a_deed T.d_l_a_deed ["draws", "places"] (spD K F_l_a_deed) := by
  refine okD (k := 2) (ps := ["places"]) (n := 3) T.F_l_a_deed sc_l_a_deed rfl fun cdv A outer s H E hr => ⟨_, (pss_cons (ps_set (i := 2) sc_l_a_deed.nd rfl (by first | exact Or.inl rfl | exact Or.inr rfl) (pe_call (ok_l_of T) (hr.mono (by decide)) (by rfl) T.g_l_of T.F_l_of.kp (b_l_of T) .nil pass0 (pa_cons (pv 0) (pa_cons (pe_op (op_addK (K := K) rfl) (pe_op (op_mulK (K := K) rfl) (pe_lst (pa_cons (pe_call (ok_l_draw T) (hr.mono (by decide)) (by rfl) T.g_l_draw T.F_l_draw.kp (b_l_draw T) .nil pass0 (pa_cons (pv 0) (pa_cons (pv 1) pa_nil))) pa_nil)) pe_int) (pe_lst (pa_cons (pe_un un_neg pe_int) (pa_cons (pv 1) (pa_cons pe_non (pa_cons pe_bl pa_nil)))))) pa_nil))))
 (pss_cons (ps_set (i := 3) sc_l_a_deed.nd rfl (by first | exact Or.inl rfl | exact Or.inr rfl) (pe_call (ok_l_of T) (hr.mono (by decide)) (by rfl) T.g_l_of T.F_l_of.kp (b_l_of T) .nil pass0 (pa_cons (pv 0) (pa_cons (pe_op (op_addK (K := K) rfl) (pe_op (op_mulK (K := K) rfl) (pe_lst (pa_cons (pe_call (ok_l_draw T) (hr.mono (by decide)) (by rfl) T.g_l_draw T.F_l_draw.kp (b_l_draw T) .nil pass0 (pa_cons (pv 0) (pa_cons (pv 1) pa_nil))) pa_nil)) pe_int) (pe_lst (pa_cons (pe_un un_neg pe_int) (pa_cons (pv 1) (pa_cons pe_str (pa_cons pe_bl pa_nil)))))) pa_nil))))
 (pss_cons (ps_set (i := 4) sc_l_a_deed.nd rfl (by first | exact Or.inl rfl | exact Or.inr rfl) (pe_call (ok_l_draw T) (hr.mono (by decide)) (by rfl) T.g_l_draw T.F_l_draw.kp (b_l_draw T) .nil pass0 (pa_cons (pv 0) (pa_cons pe_int pa_nil))))
 (pss_cons (ps_if (pt_cmpR (op_eqK (K := K) rfl hr.units) (pv 4) pe_int (nomark _)) (pss_one (ps_ret (pe_tup (pa_cons pe_str pa_nil)))) pss_nil)
 (pss_one (ps_ret (pe_ifExp (pt_cmpR (op_eqK (K := K) rfl hr.units) (pv 4) pe_int (nomark _)) (pe_tup (pa_cons pe_str (pa_cons (pv 2) (pa_cons (pv 3) pa_nil)))) (pe_tup (pa_cons (pe_ix (ix_K (K := K) rfl) (pe_lst (pa_cons pe_str (pa_cons pe_str pa_nil))) (pe_op op_mod (pv 4) pe_int) (fun _ _ => rfl)) (pa_cons (pv 2) pa_nil)))))))))), ?_⟩
  exact (imp_seq (imp_asg (imp_callD (F := F_l_of) (i := 0) (imp_cons (imp_op d_add (imp_op d_mul (imp_lst (imp_cons (imp_callD (F := F_l_draw) (i := 0) (imp_cons (imp_v 1) imp_nil)) imp_nil)) imp_int) (imp_lst (imp_cons (imp_un d_neg imp_int) (imp_cons (imp_v 1) (imp_cons imp_non (imp_cons imp_bl imp_nil)))))) imp_nil)) (imp_gN 2))
 (imp_seq (imp_asg (imp_callD (F := F_l_of) (i := 0) (imp_cons (imp_op d_add (imp_op d_mul (imp_lst (imp_cons (imp_callD (F := F_l_draw) (i := 0) (imp_cons (imp_v 1) imp_nil)) imp_nil)) imp_int) (imp_lst (imp_cons (imp_un d_neg imp_int) (imp_cons (imp_v 1) (imp_cons imp_str (imp_cons imp_bl imp_nil)))))) imp_nil)) (imp_gN 3))
 (imp_seq (imp_asg (imp_callD (F := F_l_draw) (i := 0) (imp_cons imp_int imp_nil)) (imp_gN 4))
 (imp_seq (imp_if (imp_test (imp_op d_eq (imp_v 4) imp_int))
 (imp_ret (imp_tup (imp_cons imp_str imp_nil)))
 imp_next)
 (imp_ret (imp_ifE (imp_test (imp_op d_eq (imp_v 4) imp_int)) (imp_tup (imp_cons imp_str (imp_cons (imp_v 2) (imp_cons (imp_v 3) imp_nil)))) (imp_tup (imp_cons (imp_op d_ix (imp_lst (imp_cons imp_str (imp_cons imp_str imp_nil))) (imp_op d_mod (imp_v 4) imp_int)) (imp_cons (imp_v 2) imp_nil)))))))))
theorem ok_l_is_whole (T : TX K mg) : FnOk P w K mg base CX0 1 T.f_l_is_whole T.d_l_is_whole ["thing", "low", "high"] (spP K F_l_is_whole) := by
  refine okP (k := 0) (ps := ["thing", "low", "high"]) (n := 0) T.F_l_is_whole sc_l_is_whole rfl fun cdv A outer s H E hr => ⟨_, (pss_one (ps_ret (pe_and (pe_callB (call_isiK (K := K) rfl) (by rfl) T.b_isinstance (by decide +kernel) (pa_cons (pv 0) (pa_cons (pe_bltn (v := .ty "int") (by rfl) T.b_int (by decide +kernel) rfl) pa_nil))) (pe_and (pe_not (pe_callB (call_isiK (K := K) rfl) (by rfl) T.b_isinstance (by decide +kernel) (pa_cons (pv 0) (pa_cons (pe_bltn (v := .ty "bool") (by rfl) T.b_bool (by decide +kernel) rfl) pa_nil)))) (pe_one (pe_chain op_le op_le (pv 1) (pv 0) (pv 2))))))), ?_⟩
  exact (imp_ret (imp_andV (imp_isi (k := .int) (imp_v 0)) (imp_andV (imp_notV (imp_isi (k := .bool) (imp_v 0))) (imp_chain d_le d_le (imp_v 1) (imp_v 0) (imp_v 2)))))
theorem ok_l_bench_due (T : TX K mg) : FnOk P w K mg base CX0 2 T.f_l_bench_due T.d_l_bench_due ["cap_d", "row_d", "deed"] (spP K F_l_bench_due) := by
  refine okP (k := 1) (ps := ["cap_d", "row_d", "deed"]) (n := 3) T.F_l_bench_due sc_l_bench_due rfl fun cdv A outer s H E hr => ⟨_, (pss_cons (ps_par (i := 3) (j := 4) (by rfl) sc_l_bench_due.nd rfl rfl (by decide) rfl rfl (pa_cons (pe_ix (ix_K (K := K) rfl) (pv 2) pe_int (fun _ _ => rfl)) (pa_cons (pe_callTy (call_listK (K := K) rfl) (by rfl) T.b_list (by decide +kernel) (pa_cons (pv 1) pa_nil)) pa_nil)) (by rfl))
 (pss_cons (ps_for PassesOwn.never rfl (pi_tupleK (K := K) rfl (pe_slice (sl_K (K := K) rfl) (pv 2) (po_some pe_int) po_none)) (pg_name (i := 5) sc_l_bench_due.nd rfl (by first | exact Or.inl rfl | exact Or.inr rfl)) (pss_one (ps_if (pt_not (pt_val (pe_call (ok_l_is_whole T) (hr.mono (by decide)) (by rfl) T.g_l_is_whole T.F_l_is_whole.kp (b_l_is_whole T) .nil pass0 (pa_cons (pv 5) (pa_cons pe_int (pa_cons (pe_op op_sub (pe_callB (call_lenK (K := K) rfl) (by rfl) T.b_len (by decide +kernel) (pa_cons (pv 1) pa_nil)) pe_int) pa_nil)))))) (pss_one (ps_ret (pe_tup (pa_cons pe_str pa_nil)))) pss_nil)))
 (pss_cons (ps_if (pt_cmpR (op_eqK (K := K) rfl hr.units) (pv 3) pe_str (nomark _)) (pss_one (ps_ret (pe_tup (pa_cons pe_str (pa_cons (pe_revK (K := K) rfl (pv 1)) pa_nil))))) pss_nil)
 (pss_cons (ps_if (pt_cmpR (op_eqK (K := K) rfl hr.units) (pv 3) pe_str (nomark _)) (pss_cons (ps_asg (pe_tup (pa_cons (pe_ix (ix_K (K := K) rfl) (pv 4) (pe_ix (ix_K (K := K) rfl) (pv 2) pe_int (fun _ _ => rfl)) (fun _ _ => rfl)) (pa_cons (pe_ix (ix_K (K := K) rfl) (pv 4) (pe_ix (ix_K (K := K) rfl) (pv 2) pe_int (fun _ _ => rfl)) (fun _ _ => rfl)) pa_nil))) (pg_tupK (K := K) (n := 2) rfl (by rfl) (pgs_cons (pg_sub (pv 4) (pe_ix (ix_K (K := K) rfl) (pv 2) pe_int (fun _ _ => rfl)) set_list) (pgs_cons (pg_sub (pv 4) (pe_ix (ix_K (K := K) rfl) (pv 2) pe_int (fun _ _ => rfl)) set_list) pgs_nil))))
 (pss_one (ps_ret (pe_tup (pa_cons pe_str (pa_cons (pe_callTy (call_tupleK (K := K) rfl) (by rfl) T.b_tuple (by decide +kernel) (pa_cons (pv 4) pa_nil)) pa_nil)))))) pss_nil)
 (pss_cons (ps_if (PW.pt (pw_and (pt_cmpR (op_eqK (K := K) rfl hr.units) (pv 3) pe_str (nomark _)) (pw_and1 (pt_cmpR (op_eqK (K := K) rfl hr.units) (pe_ix (ix_K (K := K) rfl) (pv 1) (pe_ix (ix_K (K := K) rfl) (pv 2) pe_int (fun _ _ => rfl)) (fun _ _ => rfl)) (pv 0) (nomark _))))) (pss_one (ps_ret (pe_tup (pa_cons pe_str (pa_cons (pe_ix (ix_K (K := K) rfl) (pv 2) pe_int (fun _ _ => rfl)) pa_nil))))) pss_nil)
 (pss_cons (ps_if (PW.pt (pw_and (pt_cmpR (op_eqK (K := K) rfl hr.units) (pv 3) pe_str (nomark _)) (pw_and1 (pt_cmpR (op_eqK (K := K) rfl hr.units) (pe_ix (ix_K (K := K) rfl) (pv 1) (pe_ix (ix_K (K := K) rfl) (pv 2) pe_int (fun _ _ => rfl)) (fun _ _ => rfl)) pe_int (nomark _))))) (pss_one (ps_ret (pe_tup (pa_cons pe_str (pa_cons (pe_ix (ix_K (K := K) rfl) (pv 2) pe_int (fun _ _ => rfl)) pa_nil))))) pss_nil)
 (pss_cons (ps_asg (pe_op (op_addK (K := K) rfl) (pe_ix (ix_K (K := K) rfl) (pv 4) (pe_ix (ix_K (K := K) rfl) (pv 2) pe_int (fun _ _ => rfl)) (fun _ _ => rfl)) (pe_ifExp (pt_cmpR (op_eqK (K := K) rfl hr.units) (pv 3) pe_str (nomark _)) pe_int (pe_un un_neg pe_int))) (pg_sub (pv 4) (pe_ix (ix_K (K := K) rfl) (pv 2) pe_int (fun _ _ => rfl)) set_list))
 (pss_one (ps_ret (pe_tup (pa_cons pe_str (pa_cons (pe_callTy (call_tupleK (K := K) rfl) (by rfl) T.b_tuple (by decide +kernel) (pa_cons (pv 4) pa_nil)) pa_nil)))))))))))), ?_⟩
  exact (imp_seq (imp_many2 (imp_avP (imp_op d_ix (imp_v 2) imp_int) (imp_avF (imp_listOf (imp_cons (imp_v 1) imp_nil)) imp_avNil)))
 (imp_seq (imp_for (imp_iT (imp_sl d_sl (imp_v 2) (imp_p imp_int) imp_noP)) (imp_gN 5)
 (imp_then [5] (imp_if (imp_not (imp_tB (imp_call (F := F_l_is_whole) (imp_cons (imp_v 5) (imp_cons imp_int (imp_cons (imp_op d_sub (imp_cb d_len (imp_cons (imp_v 1) imp_nil)) imp_int) imp_nil))))))
 (imp_ret (imp_tup (imp_cons imp_str imp_nil)))
 imp_next)))
 (imp_seq (imp_if (imp_test (imp_op d_eq (imp_v 3) imp_str))
 (imp_ret (imp_tup (imp_cons imp_str (imp_cons (imp_revA (imp_v 1)) imp_nil))))
 imp_next)
 (imp_seq (imp_if (imp_test (imp_op d_eq (imp_v 3) imp_str))
 (imp_seq (EX.imp_swap (i := 4) (imp_op d_ix (imp_v 2) imp_int) (imp_op d_ix (imp_v 2) imp_int) (imp_ixO (i := 4) (imp_op d_ix (imp_v 2) imp_int)) (imp_ixO (i := 4) (imp_op d_ix (imp_v 2) imp_int)))
 (imp_frz 4 (imp_ret (imp_tup (imp_cons imp_str (imp_cons (imp_cb d_tuple (imp_cons (imp_v 4) imp_nil)) imp_nil))))))
 imp_next)
 (imp_seq (imp_if (imp_and (imp_test (imp_op d_eq (imp_v 3) imp_str)) (imp_test (imp_op d_eq (imp_op d_ix (imp_v 1) (imp_op d_ix (imp_v 2) imp_int)) (imp_v 0))))
 (imp_ret (imp_tup (imp_cons imp_str (imp_cons (imp_op d_ix (imp_v 2) imp_int) imp_nil))))
 imp_next)
 (imp_seq (imp_if (imp_and (imp_test (imp_op d_eq (imp_v 3) imp_str)) (imp_test (imp_op d_eq (imp_op d_ix (imp_v 1) (imp_op d_ix (imp_v 2) imp_int)) imp_int)))
 (imp_ret (imp_tup (imp_cons imp_str (imp_cons (imp_op d_ix (imp_v 2) imp_int) imp_nil))))
 imp_next)
 (imp_seq (imp_setI (i := 4) (imp_op d_ix (imp_v 2) imp_int) (imp_op d_add (imp_ixO (i := 4) (imp_op d_ix (imp_v 2) imp_int)) (imp_ifE (imp_test (imp_op d_eq (imp_v 3) imp_str)) imp_int (imp_un d_neg imp_int))))
 (imp_frz 4 (imp_ret (imp_tup (imp_cons imp_str (imp_cons (imp_cb d_tuple (imp_cons (imp_v 4) imp_nil)) imp_nil))))))))))))
theorem ok_l_draws (T : TX K mg) : FnOk P w K mg base CX0 1 T.f_l_draws T.d_l_draws ["script", "k"] (spCell K cellF) := by
  refine T.F_l_draws.ok sc_l_draws (fun vs H Q E h => ?_) (fun cdv A outer s H vs Q E hr h => ?_)
  · obtain ⟨a, ns, k, c, rfl, _⟩ := h
    rfl
  obtain ⟨a, ns, k, c, rfl, hS, hF, q⟩ := h
  refine ⟨_, (pss_cons (ps_set (i := 2) sc_l_draws.nd rfl (by first | exact Or.inl rfl | exact Or.inr rfl) (pe_op (op_mulK (K := K) rfl) pe_int (pv 1)))
 (pss_cons (ps_if (pt_cmpR op_lt (pv 1) (pe_callB (call_lenK (K := K) rfl) (by rfl) T.b_len (by decide +kernel) (pa_cons (pv 0) pa_nil)) (nomark _)) (pss_one (ps_set (i := 2) sc_l_draws.nd rfl (by first | exact Or.inl rfl | exact Or.inr rfl) (pe_op op_mod (pe_ix (ix_K (K := K) rfl) (pv 0) (pv 1) (fun _ _ => rfl)) (pe_op (op_mulK (K := K) rfl) (pe_op (op_mulK (K := K) rfl) (pe_op (op_mulK (K := K) rfl) (pe_op (op_mulK (K := K) rfl) (pe_op op_pow pe_int pe_int) (pe_op op_pow pe_int pe_int)) (pe_op op_pow pe_int pe_int)) (pe_op op_pow pe_int pe_int)) (pe_op op_pow pe_int pe_int))))) (pss_one (ps_if (pt_cmpR op_gt (pe_callB (call_lenK (K := K) rfl) (by rfl) T.b_len (by decide +kernel) (pa_cons (pv 0) pa_nil)) pe_int (nomark _)) (pss_one (ps_set (i := 2) sc_l_draws.nd rfl (by first | exact Or.inl rfl | exact Or.inr rfl) (pe_op (op_addK (K := K) rfl) (pe_op op_mod (pe_ix (ix_K (K := K) rfl) (pv 0) (pe_op op_mod (pv 1) (pe_callB (call_lenK (K := K) rfl) (by rfl) T.b_len (by decide +kernel) (pa_cons (pv 0) pa_nil))) (fun _ _ => rfl)) (pe_op op_pow pe_int pe_int)) (pe_op (op_mulK (K := K) rfl) pe_int (pv 1))))) pss_nil)))
 (pss_one (ps_ret (pe_lst (pa_cons (pe_op (op_mulK (K := K) rfl) (pv 2) (pe_callTy call_int1 (by rfl) T.b_int (by decide +kernel) (pa_cons (pe_cmpR op_ge (pv 2) (pe_op op_pow pe_int pe_int) (nomark _)) pa_nil))) (pa_cons (pe_op (op_addK (K := K) rfl) pe_int (pe_op op_mod (pe_op (op_addK (K := K) rfl) (pe_op (op_mulK (K := K) rfl) (pv 2) pe_int) (pe_op (op_mulK (K := K) rfl) pe_int (pe_op (op_addK (K := K) rfl) (pv 1) pe_int))) pe_int)) pa_nil))))))), ?_⟩
  exact draws_read rfl hS hF q


end
end X
/-! EXm: readings on data where the heap J stands: what stands in J may be asked. -/
namespace EX
open PySem PySem.Spec L2 DL
def ImpEJ (K : PySem.W.Frag) (J : Hp) (t : L2.TE) (f : SE) : Prop := ∀ (ad : Option Addr) (B : Hp) (σ : L2.St) (H : Hp) (ρ : Rho) (c : Dr) (d : D) (c' : Dr) (Q : VK), Same J B → DL.Rl K ad B σ H ρ c → f ρ c = some (d, c') →
  (∀ v B' H', Fw ad c' B H B' H' → DL.Dp K B' v d → Q v H') → t σ H Q
def ImpTJ (K : PySem.W.Frag) (J : Hp) (t : TT) (f : SB) : Prop := ∀ (ad : Option Addr) (B : Hp) (σ : L2.St) (H : Hp) (ρ : Rho) (c : Dr) (b : Bool) (c' : Dr) (Q : Bool → Hp → Prop), Same J B → DL.Rl K ad B σ H ρ c → f ρ c = some (b, c') →
  (∀ B' H', Fw ad c' B H B' H' → Q b H') → t σ H Q
def ImpAJ (K : PySem.W.Frag) (J : Hp) (t : TA) (f : SA) : Prop := ∀ (ad : Option Addr) (B : Hp) (σ : L2.St) (H : Hp) (ρ : Rho) (c : Dr) (ds : List D) (c' : Dr) (Q : List V → Hp → Prop), Same J B → DL.Rl K ad B σ H ρ c → f ρ c = some (ds, c') →
  (∀ vs B' H', Fw ad c' B H B' H' → DL.DpAll K B' vs ds → Q vs H') → t σ H Q
def ImpSJ (K : PySem.W.Frag) (J : Hp) (t : TS) (f : SS) : Prop := ∀ (ad : Option Addr) (B : Hp) (σ : L2.St) (H : Hp) (ρ : Rho) (c : Dr) (r : Fl × Rho × Dr) (D : Ends), Same J B → DL.Rl K ad B σ H ρ c → f ρ c = some r → Post K D ad B σ H ρ r → t D σ H
def ImpLJ (K : PySem.W.Frag) (J : Hp) (t : L2.TE) (f : SL) : Prop := ∀ (ad : Option Addr) (B : Hp) (σ : L2.St) (H : Hp) (ρ : Rho) (c : Dr) (ds : List D) (c' : Dr) (Q : VK), Same J B → DL.Rl K ad B σ H ρ c → f ρ c = some (ds, c') →
  (∀ a vs B' H' H1, Fw ad c' B H B' H1 → H1 a = none → H' = upd H1 a (.lst vs) → DL.DpAll K B' vs ds → Q (.ref a) H') → t σ H Q
def ImpIJ (K : PySem.W.Frag) (J0 : Hp) (wi : TI) (f : SI) : Prop := ∀ (ad : Option Addr) (B : Hp) (σ : L2.St) (H : Hp) (ρ : Rho) (c : Dr) (xs : List D) (c' : Dr) (R : It → Hp → Prop), Same J0 B → DL.Rl K ad B σ H ρ c → f ρ c = some (xs, c') →
  (∀ J B' H', Fw ad c' B H B' H' → DL.Walk K J B' xs → R J H') → wi σ H R
section
variable {K : PySem.W.Frag} {J0 : Hp}
theorem jE {t : L2.TE} {f : SE} (h : ImpE K t f) : ImpEJ K J0 t f := fun ad B σ H ρ c d c' Q _ => h ad B σ H ρ c d c' Q
theorem jT {t : TT} {f : SB} (h : ImpT K t f) : ImpTJ K J0 t f := fun ad B σ H ρ c d c' Q _ => h ad B σ H ρ c d c' Q
theorem jA {t : TA} {f : SA} (h : ImpA K t f) : ImpAJ K J0 t f := fun ad B σ H ρ c d c' Q _ => h ad B σ H ρ c d c' Q
theorem jS {t : TS} {f : SS} (h : ImpS K t f) : ImpSJ K J0 t f := fun ad B σ H ρ c r D _ => h ad B σ H ρ c r D
theorem jI {t : TI} {f : SI} (h : ImpI K t f) : ImpIJ K J0 t f := fun ad B σ H ρ c r D Q _ => h ad B σ H ρ c r D Q

theorem imp_opJ {r : R2} {g : D → D → Option D} {ta tb : L2.TE} {a b : SE} (hr : OpD K r g) (ha : ImpEJ K J0 ta a) (hb : ImpEJ K J0 tb b) : ImpEJ K J0 (tOp r ta tb) (sOp g a b) := fun ad B σ H ρ c d c' Q j R h q => by
  unfold sOp at h
  obtain ⟨⟨x, c1⟩, h1, h⟩ := Option.bind_eq_some_iff.mp h
  obtain ⟨⟨y, c2⟩, h2, h⟩ := Option.bind_eq_some_iff.mp h
  obtain ⟨z, h3, h⟩ := Option.bind_eq_some_iff.mp h
  cases h
  refine ha ad B σ H ρ c x c1 _ j R h1 fun v B1 H1 f1 d1 => ?_
  refine hb ad B1 σ H1 ρ c1 y c2 _ (j.trans f1.bb) (R.fw f1) h2 fun u B2 H2 f2 d2 => ?_
  refine hr B2 H2 v u x y _ _ f2.bh (dp_mono f2.bb _ _ d1) d2 h3 fun w B3 H3 g3 d3 => ?_
  exact q w B3 H3 (R.trans (R.trans f1 f2) (g3.fw f2.cell)) d3
theorem imp_testJ {t : L2.TE} {f : SE} (h : ImpEJ K J0 t f) : ImpTJ K J0 (tTest t) (sB f) := fun ad B σ H ρ c b c' Q j R e q => by
  unfold sB at e
  obtain ⟨⟨x, c1⟩, h1, e⟩ := Option.bind_eq_some_iff.mp e
  refine h ad B σ H ρ c x c1 _ j R h1 fun v B1 H1 f1 d1 => ?_
  cases x with
  | bool k =>
    cases e
    exact ⟨b, dp_bool d1, q B1 H1 f1⟩
  | _ => cases e
theorem imp_tBJ {t : L2.TE} {f : SE} (h : ImpEJ K J0 t f) : ImpTJ K J0 (tB t) (sB f) := imp_testJ h
theorem imp_orJ {t u : TT} {a b : SB} (ha : ImpTJ K J0 t a) (hb : ImpTJ K J0 u b) : ImpTJ K J0 (tOr t u) (sOr a b) := fun ad B σ H ρ c z c' Q j R e q => by
  unfold sOr at e
  obtain ⟨⟨x, c1⟩, h1, e⟩ := Option.bind_eq_some_iff.mp e
  refine ha ad B σ H ρ c x c1 _ j R h1 fun B1 H1 f1 => ?_
  cases x with
  | false => exact hb ad B1 σ H1 ρ c1 z c' Q (j.trans f1.bb) (R.fw f1) e fun B2 H2 f2 => q B2 H2 (R.trans f1 f2)
  | true => cases e; exact q B1 H1 f1
theorem imp_notJ {t : TT} {a : SB} (ha : ImpTJ K J0 t a) : ImpTJ K J0 (tNot t) (sNot a) := fun ad B σ H ρ c z c' Q j R e q => by
  unfold sNot at e
  obtain ⟨⟨x, c1⟩, h1, e⟩ := Option.bind_eq_some_iff.mp e
  cases e
  exact ha ad B σ H ρ c x c1 _ j R h1 fun B1 H1 f1 => q B1 H1 f1
theorem imp_consJ {t : L2.TE} {u : TA} {a : SE} {b : SA} (ha : ImpEJ K J0 t a) (hb : ImpAJ K J0 u b) : ImpAJ K J0 (tCons t u) (sCons a b) := fun ad B σ H ρ c ds c' Q j R h q => by
  unfold sCons at h
  obtain ⟨⟨x, c1⟩, h1, h⟩ := Option.bind_eq_some_iff.mp h
  obtain ⟨⟨y, c2⟩, h2, h⟩ := Option.bind_eq_some_iff.mp h
  cases h
  refine ha ad B σ H ρ c x c1 _ j R h1 fun v B1 H1 f1 d1 => ?_
  refine hb ad B1 σ H1 ρ c1 y c2 _ (j.trans f1.bb) (R.fw f1) h2 fun us B2 H2 f2 d2 => ?_
  exact q _ B2 H2 (R.trans f1 f2) (.cons (dp_mono f2.bb _ _ d1) d2)
theorem imp_nilJ : ImpAJ K J0 tNil sNil := jA imp_nil
theorem imp_lstJ {t : TA} {a : SA} (ha : ImpAJ K J0 t a) : ImpEJ K J0 (tLst t) (sLst a) := fun ad B σ H ρ c d c' Q j R h q => by
  unfold sLst at h
  obtain ⟨⟨x, c1⟩, h1, h⟩ := Option.bind_eq_some_iff.mp h
  split at h
  · rename_i hz
    cases h
    refine ha ad B σ H ρ c x _ _ j R h1 fun vs B1 H1 f1 d1 => ⟨by rw [dpAll_len d1]; exact few_line hz, fun p np => ?_⟩
    exact q _ (upd B1 p (.lst vs)) _ (R.trans f1 ((Grow.new f1.bh np).fw f1.cell)) (dp_newLst (f1.bh.free np) d1)
  · cases h
theorem imp_cbJ {r : List V → Hp → VK → Prop} {g : List D → Option D} {t : TA} {a : SA} (hr : CallD K r g) (ha : ImpAJ K J0 t a) : ImpEJ K J0 (tCB r t) (sCB g a) := fun ad B σ H ρ c d c' Q j R h q => by
  unfold sCB at h
  obtain ⟨⟨x, c1⟩, h1, h⟩ := Option.bind_eq_some_iff.mp h
  obtain ⟨z, h3, h⟩ := Option.bind_eq_some_iff.mp h
  cases h
  refine ha ad B σ H ρ c x c1 _ j R h1 fun vs B1 H1 f1 d1 => ?_
  exact hr B1 H1 vs x _ _ f1.bh d1 h3 fun w B3 H3 g3 d3 => q w B3 H3 (R.trans f1 (g3.fw f1.cell)) d3
theorem imp_callJ {F : List D → Option D} {t : TA} {a : SA} (h : ImpAJ K J0 t a) : ImpEJ K J0 (tCall (spP K F) [] C8.E0 t) (sCall F a) := fun ad B σ H ρ c d c' Q j R e q => by
  obtain ⟨⟨ds, c1⟩, e1, e2⟩ := Option.bind_eq_some_iff.mp e
  obtain ⟨d', e3, e4⟩ := Option.bind_eq_some_iff.mp e2
  cases e4
  refine h ad B σ H ρ c ds _ _ j R e1 fun vs B' H' x dv => ?_
  show spP K F (vs ++ []) H' Q C8.E0
  rw [List.append_nil]
  exact ⟨ds, B', d, x.bh, dv, e3, fun v B2 H2 g dd => q v B2 H2 (R.trans x (g.fw x.cell)) dd⟩
theorem imp_seqJ {t u : TS} {f g : SS} (h1 : ImpSJ K J0 t f) (h2 : ImpSJ K J0 u g) : ImpSJ K J0 (tSeq t u) (sSeq f g) := fun ad B σ H ρ c r D j R h q => by
  obtain ⟨⟨fl, ρ1, c1⟩, e1, e2⟩ := Option.bind_eq_some_iff.mp h
  refine h1 ad B σ H ρ c _ _ j R e1 ?_
  cases fl with
  | nx => exact fun B1 σ1 H1 R1 x => h2 ad B1 σ1 H1 ρ1 c1 r D (j.trans x.bb) R1 e2 (Post.trans R R1 x q)
  | bk => cases e2; exact q
  | ct => cases e2; exact q
  | rt d => cases e2; exact q
theorem imp_ifJ {t : TT} {u v : TS} {s : SB} {f g : SS} (ht : ImpTJ K J0 t s) (h1 : ImpSJ K J0 u f) (h2 : ImpSJ K J0 v g) : ImpSJ K J0 (tIfS t u v) (sIfS s f g) := fun ad B σ H ρ c r D j R e q => by
  obtain ⟨⟨b, c1⟩, e1, e2⟩ := Option.bind_eq_some_iff.mp e
  refine ht ad B σ H ρ c b c1 _ j R e1 fun B1 H1 x => ?_
  have q' := Post.trans R (R.fw x) (FwS.ofFw R x) q
  cases b with
  | true => exact h1 ad B1 σ H1 ρ c1 r D (j.trans x.bb) (R.fw x) e2 q'
  | false => exact h2 ad B1 σ H1 ρ c1 r D (j.trans x.bb) (R.fw x) e2 q'
theorem imp_asgJ {t : L2.TE} {u : TG} {a : SE} {g : D → Rho → Option Rho} (h : ImpEJ K J0 t a) (hg : ImpG K u g) : ImpSJ K J0 (tAsg t u) (sAsg a g) := fun ad B σ H ρ c r D j R e q => by
  obtain ⟨⟨d, c1⟩, e1, e2⟩ := Option.bind_eq_some_iff.mp e
  obtain ⟨ρ', e3, e4⟩ := Option.bind_eq_some_iff.mp e2
  cases e4
  refine h ad B σ H ρ c d c1 _ j R e1 fun v B1 H1 x dv => ?_
  refine hg ad B1 σ H1 ρ c1 v d ρ' _ (R.fw x) dv e3 fun σ' R' y => ?_
  exact q B1 σ' H1 R' (FwS.trans R (R.fw x) (FwS.ofFw R x) y)
theorem imp_retJ {t : L2.TE} {a : SE} (h : ImpEJ K J0 t a) : ImpSJ K J0 (tRet t) (sRet a) := fun ad B σ H ρ c r D j R e q => by
  obtain ⟨⟨d, c1⟩, e1, e2⟩ := Option.bind_eq_some_iff.mp e
  cases e2
  exact h ad B σ H ρ c d c1 _ j R e1 fun v B1 H1 x dv => q v B1 σ H1 (R.fw x) (FwS.ofFw R x) dv

theorem imp_thenJ {t : TS} {f : SS} (is : List Nat) (h : ImpSJ K J0 t f) : ImpSJ K J0 t (sThen is f) := fun ad B σ H ρ c r D j R e q => by
  obtain ⟨⟨fl, ρ', c'⟩, e1, e2⟩ := Option.bind_eq_some_iff.mp e
  refine h ad B σ H ρ c _ D j R e1 ?_
  cases fl with
  | nx =>
    cases e2
    exact fun B' σ' H' R' y => by
      obtain ⟨R2, z⟩ := R'.forgets is
      exact q B' σ' H' R2 (FwS.trans R R' y z)
  | bk =>
    cases e2
    exact fun B' σ' H' R' y => by
      obtain ⟨R2, z⟩ := R'.forgets is
      exact q B' σ' H' R2 (FwS.trans R R' y z)
  | ct =>
    cases e2
    exact fun B' σ' H' R' y => by
      obtain ⟨R2, z⟩ := R'.forgets is
      exact q B' σ' H' R2 (FwS.trans R R' y z)
  | rt d => cases e2; exact q
theorem for_coreJ {J : It} {tg : TG} {tb : TS} {g : D → Rho → Option Rho} {body : SS} (hg : ImpG K tg g) (hb : ImpSJ K J0 tb body) {ad : Option Addr} {B1 : Hp} {σ : L2.St} {H1 : Hp} {ρ : Rho} {c1 : Dr} {xs : List D} {r : Fl × Rho × Dr} {D : Ends} (j0 : Same J0 B1) (R1 : DL.Rl K ad B1 σ H1 ρ c1)
    (wk : ∀ (B' : Hp) (σ' : L2.St) (H' : Hp) (ρ' : Rho), FwS ad B1 σ H1 ρ B' σ' H' ρ' → Same B' H' → J.stop xs.length H' ∧ ∀ (i : Nat) (d : PyData), xs[i]? = some d → J.go i H' ∧ ∀ x H3, J.yld i H' x H3 → ∃ B3, Grow B' H' B3 H3 ∧ DL.Dp K B3 x d)
    (e2 : forS g body xs ρ c1 = some r) (q1 : Post K D ad B1 σ H1 ρ r) : ∃ W : Nat → Nat → L2.St → Hp → Prop, (∃ m, W 0 m σ H1) ∧ ∀ i m σ H, W i m σ H →
  (J.stop i H ∧ D.nx σ H) ∨ (J.go i H ∧ ∃ N : L2.St → Hp → Prop, (∀ σ' H', N σ' H' → ∃ m', m' < m ∧ W (i + 1) m' σ' H') ∧ ∀ x H', J.yld i H x H' → tg x σ H' fun σ2 H2 => tb { D with nx := N, ct := N, bk := D.nx } σ2 H2) := by
  refine ⟨fun i m σ' H' => m = xs.length - i ∧ i ≤ xs.length ∧ ∃ B' ρ' c', DL.Rl K ad B' σ' H' ρ' c' ∧ FwS ad B1 σ H1 ρ B' σ' H' ρ' ∧ forS g body (xs.drop i) ρ' c' = some r,
    ⟨xs.length, by rw [Nat.sub_zero], Nat.zero_le _, B1, ρ, c1, R1, FwS.refl R1, by rw [List.drop_zero]; exact e2⟩, fun i m σ' H' hW => ?_⟩
  obtain ⟨rfl, hi, B', ρ', c', R', y, e'⟩ := hW
  obtain ⟨w1, w2⟩ := wk B' σ' H' ρ' y R'.sub
  by_cases hlt : i < xs.length
  · have hx : xs[i]? = some xs[i] := List.getElem?_eq_getElem hlt
    obtain ⟨go, yl⟩ := w2 i _ hx
    rw [List.drop_eq_getElem_cons hlt] at e'
    obtain ⟨ρ2, e3, e4⟩ := Option.bind_eq_some_iff.mp e'
    obtain ⟨r3, e5, e6⟩ := Option.bind_eq_some_iff.mp e4
    refine .inr ⟨go, fun σ2 H2 => xs.length - (i + 1) = xs.length - (i + 1) ∧ i + 1 ≤ xs.length ∧ ∃ B2 ρ2 c2, DL.Rl K ad B2 σ2 H2 ρ2 c2 ∧ FwS ad B1 σ H1 ρ B2 σ2 H2 ρ2 ∧ forS g body (xs.drop (i + 1)) ρ2 c2 = some r, fun σ2 H2 h2 => ⟨xs.length - (i + 1), by omega, h2⟩, fun v H3 hv => ?_⟩
    obtain ⟨B3, gr, dv⟩ := yl v H3 hv
    have x3 : Fw ad c' B' H' B3 H3 := gr.fw R'.cell
    have R3 := R'.fw x3
    refine hg ad B3 σ' H3 ρ' c' v _ ρ2 _ R3 dv e3 fun σ4 R4 y4 => ?_
    have y04 : FwS ad B1 σ H1 ρ B3 σ4 H3 ρ2 := FwS.trans R1 R3 (FwS.trans R1 R' y (FwS.ofFw R' x3)) y4
    refine hb ad B3 σ4 H3 ρ2 c' r3 _ (j0.trans y04.bb) R4 e5 ?_
    obtain ⟨f3, ρ5, c5⟩ := r3
    cases f3 with
    | nx => exact fun B5 σ5 H5 R5 y5 => ⟨rfl, hlt, B5, ρ5, c5, R5, FwS.trans R1 R4 y04 y5, e6⟩
    | ct => exact fun B5 σ5 H5 R5 y5 => ⟨rfl, hlt, B5, ρ5, c5, R5, FwS.trans R1 R4 y04 y5, e6⟩
    | bk =>
      cases e6
      exact fun B5 σ5 H5 R5 y5 => q1 B5 σ5 H5 R5 (FwS.trans R1 R4 y04 y5)
    | rt d =>
      cases e6
      exact fun w B5 σ5 H5 R5 y5 dw => q1 w B5 σ5 H5 R5 (FwS.trans R1 R4 y04 y5) dw
  · have ei : i = xs.length := by omega
    subst ei
    rw [List.drop_length] at e'
    cases e'
    exact .inl ⟨w1, q1 B' σ' H' R' y⟩
theorem imp_forJ {wi : TI} {tg : TG} {tb : TS} {f : SI} {g : D → Rho → Option Rho} {body : SS} (hf : ImpIJ K J0 wi f) (hg : ImpG K tg g) (hb : ImpSJ K J0 tb body) : ImpSJ K J0 (tFor wi tg tb) (sFor f g body) := fun ad B σ H ρ c r D j R e q => by
  obtain ⟨⟨xs, c1⟩, e1, e2⟩ := Option.bind_eq_some_iff.mp e
  refine hf ad B σ H ρ c xs c1 _ j R e1 fun J B1 H1 x wk => ?_
  have R1 := R.fw x
  exact for_coreJ hg hb (j.trans x.bb) R1 (fun B' σ' H' ρ' y s => wk B' H' y.bb s) e2 (Post.trans R R1 (FwS.ofFw R x) q)

theorem imp_lcJ {wi : TI} {tg : TG} {tt : TT} {te : TE} {f : SI} {g : D → Rho → Option Rho} {t : SB} {e : SE} {vs : List Nat} (hf : ImpIJ K J0 wi f) (hg : ImpG K tg g) (ho : OnlyG tg vs) (mn : MonoG tg) (ht : ImpT K tt t) (he : ImpE K te e) :
    ImpLJ K J0 (tLc wi tg tt te vs) (sLc f g t e vs) := fun ad B σ H ρ c ds c' Q j R h q => by
  obtain ⟨⟨xs, c1⟩, e1, e2⟩ := Option.bind_eq_some_iff.mp h
  have e2 : (if few xs.length = true then lcS g t e (wipeR ρ vs) xs c1 else none) = some (ds, c') := e2
  by_cases hz : few xs.length = true
  · rw [if_pos hz] at e2
    have hz' := few_ok hz
    refine hf ad B σ H ρ c xs c1 _ j R e1 fun J B1 H1 x wk => ?_
    intro Dl hD
    have R1 := R.fw x
    have nB1 : B1 Dl = none := R1.sub.free hD
    have nad : ad ≠ some Dl := fun z => by rw [R1.cell Dl z] at hD; cases hD
    refine ⟨fun i m H' => m = xs.length - i ∧ i ≤ xs.length ∧ ∃ (B' : Hp) (cc : Dr) (acc : List V) (done rest : List D), H' Dl = some (.lst acc) ∧ DL.DpAll K B' acc done ∧ acc.length ≤ i ∧ Fw ad cc B1 H1 B' (delH H' Dl) ∧ lcS g t e (wipeR ρ vs) (xs.drop i) cc = some (rest, c') ∧ ds = done ++ rest,
      ⟨xs.length, by rw [Nat.sub_zero], Nat.zero_le _, B1, c1, [], [], ds, upd_same, .nil, Nat.zero_le _, by rw [delH_upd hD]; exact R1.fwRefl, by rw [List.drop_zero]; exact e2, rfl⟩, fun i m H' hW => ?_⟩
    obtain ⟨rfl, hi, B', cc, acc, done, rest, hDl, dacc, hacc, y, e', ed⟩ := hW
    have nB' : B' Dl = none := by
      cases z : B' Dl with
      | none => rfl
      | some u =>
        have := y.bh Dl u z
        rw [delH_self] at this; cases this
    have sB' : Same B' H' := y.bh.trans same_delH
    obtain ⟨w1, w2⟩ := wk B' H' y.bb sB'
    by_cases hlt : i < xs.length
    · obtain ⟨go, yl⟩ := w2 i _ (List.getElem?_eq_getElem hlt)
      rw [List.drop_eq_getElem_cons hlt] at e'
      obtain ⟨ρ2, e3, e4⟩ := Option.bind_eq_some_iff.mp e'
      obtain ⟨⟨b, c3⟩, e5, e6⟩ := Option.bind_eq_some_iff.mp e4
      refine .inr ⟨go, fun H2 => xs.length - (i + 1) = xs.length - (i + 1) ∧ i + 1 ≤ xs.length ∧ ∃ (B' : Hp) (cc : Dr) (acc : List V) (done rest : List D), H2 Dl = some (.lst acc) ∧ DL.DpAll K B' acc done ∧ acc.length ≤ i + 1 ∧ Fw ad cc B1 H1 B' (delH H2 Dl) ∧ lcS g t e (wipeR ρ vs) (xs.drop (i + 1)) cc = some (rest, c') ∧ ds = done ++ rest, fun H2 h2 => ⟨xs.length - (i + 1), by omega, h2⟩, fun v H3 hv => ?_⟩
      obtain ⟨B3, gr, dv⟩ := yl v H3 hv
      have hDl3 : H3 Dl = some (.lst acc) := gr.hh Dl _ hDl
      have cell' : ∀ a, ad = some a → H' a = some (.lst [.int cc.1, .int cc.2]) := fun a z => same_delH a _ (y.cell a z)
      have x3 : Fw ad cc B' H' B3 H3 := gr.fw cell'
      have R' : DL.Rl K ad B' (wipe σ vs) H' (wipeR ρ vs) cc := ((R1.fw y).up same_delH).wiped vs
      have R3 := R'.fw x3
      have y3 : Fw ad cc B1 H1 B3 (delH H3 Dl) := R1.trans y (x3.del nB' hDl nad)
      have on := ho v (wipe σ vs) H3 _ (hg ad B3 (wipe σ vs) H3 (wipeR ρ vs) cc v _ ρ2 (fun σ4 H4 => H4 = H3 ∧ DL.Rl K ad B3 σ4 H3 ρ2 cc) R3 dv e3 fun σ4 R4 _ => ⟨rfl, R4⟩)
      have wmono : ∀ σ4 H4, ((H4 = H3 ∧ DL.Rl K ad B3 σ4 H3 ρ2 cc) ∧ wipe σ4 vs = wipe (wipe σ vs) vs) → (wipe σ4 vs = wipe σ vs ∧ tt σ4 H4 fun b H5 => if b = true then te σ4 H5 fun y H6 => ∃ acc', H6 Dl = some (.lst acc') ∧ acc'.length < sizeLine ∧
          (xs.length - (i + 1) = xs.length - (i + 1) ∧ i + 1 ≤ xs.length ∧ ∃ (B' : Hp) (cc : Dr) (acc : List V) (done rest : List D), upd H6 Dl (.lst (acc' ++ [y])) Dl = some (.lst acc) ∧ DL.DpAll K B' acc done ∧ acc.length ≤ i + 1 ∧ Fw ad cc B1 H1 B' (delH (upd H6 Dl (.lst (acc' ++ [y]))) Dl) ∧ lcS g t e (wipeR ρ vs) (xs.drop (i + 1)) cc = some (rest, c') ∧ ds = done ++ rest)
          else (xs.length - (i + 1) = xs.length - (i + 1) ∧ i + 1 ≤ xs.length ∧ ∃ (B' : Hp) (cc : Dr) (acc : List V) (done rest : List D), H5 Dl = some (.lst acc) ∧ DL.DpAll K B' acc done ∧ acc.length ≤ i + 1 ∧ Fw ad cc B1 H1 B' (delH H5 Dl) ∧ lcS g t e (wipeR ρ vs) (xs.drop (i + 1)) cc = some (rest, c') ∧ ds = done ++ rest)) := by
        rintro σ4 H4 ⟨⟨rfl, R4⟩, ew⟩
        have idem : wipe (wipe σ vs) vs = wipe σ vs := by
          have key : ∀ (us : List Nat) (τ : L2.St), (∀ u ∈ us, u ∈ vs) → wipe (wipe σ vs) us = wipe σ vs := by
            intro us
            induction us with
            | nil => intro τ _; rfl
            | cons u us ih =>
              intro τ hs
              show (wipe (wipe σ vs) us).set u none = wipe σ vs
              rw [ih τ fun w hw => hs w (List.mem_cons_of_mem _ hw)]
              have hu : u ∈ vs := hs u List.mem_cons_self
              have : ∀ ws : List Nat, u ∈ ws → (wipe σ ws).set u none = wipe σ ws := by
                intro ws
                induction ws with
                | nil => intro h; cases h
                | cons w ws ih2 =>
                  intro h
                  show ((wipe σ ws).set w none).set u none = (wipe σ ws).set w none
                  by_cases e : u = w
                  · subst e; rw [List.set_set]
                  · have hm : u ∈ ws := by
                      rcases List.mem_cons.mp h with z | z
                      · exact absurd z e
                      · exact z
                    rw [List.set_comm _ _ (Ne.symm e), ih2 hm]
              exact this vs hu
          exact key vs σ fun u h => h
        refine ⟨ew.trans idem, ?_⟩
        refine ht ad B3 σ4 H4 ρ2 cc b c3 _ R4 e5 fun B5 H5 x5 => ?_
        have nB3 : B3 Dl = none := by
          cases z : B3 Dl with
          | none => rfl
          | some u =>
            have := gr.fresh Dl u z nB'
            rw [hDl] at this; cases this
        have R5 := R4.fw x5
        have hDl5 : H5 Dl = some (.lst acc) := x5.keep Dl _ nad hDl3
        have y5 : Fw ad c3 B1 H1 B5 (delH H5 Dl) := R1.trans y3 (x5.del nB3 hDl3 nad)
        have nB5 : B5 Dl = none := by
          cases z : B5 Dl with
          | none => rfl
          | some u =>
            have := x5.fresh Dl u z nB3
            rw [hDl3] at this; cases this
        cases b with
        | true =>
          have e6' : ((e ρ2 c3).bind fun q => (lcS g t e (wipeR ρ vs) (xs.drop (i + 1)) q.2).bind fun r => some (q.1 :: r.1, r.2)) = some (rest, c') := e6
          rw [if_pos rfl]
          obtain ⟨⟨d7, c7⟩, e7, e8⟩ := Option.bind_eq_some_iff.mp e6'
          obtain ⟨⟨rest', c8⟩, e9, e10⟩ := Option.bind_eq_some_iff.mp e8
          cases e10
          refine he ad B5 σ4 H5 ρ2 c3 d7 c7 _ R5 e7 fun w B6 H6 x6 dw => ?_
          have hDl6 : H6 Dl = some (.lst acc) := x6.keep Dl _ nad hDl5
          have y6 : Fw ad c7 B1 H1 B6 (delH H6 Dl) := R1.trans y5 (x6.del nB5 hDl5 nad)
          have ex : delH (upd H6 Dl (.lst (acc ++ [w]))) Dl = delH H6 Dl := by
            funext b
            by_cases z : b = Dl
            · subst z; rw [delH_self, delH_self]
            · rw [delH_ne z, delH_ne z, upd_ne z]
          refine ⟨acc, hDl6, ?_, rfl, hlt, B6, c7, acc ++ [w], done ++ [d7], rest', upd_same, ?_, ?_, ?_, e9, ?_⟩
          · rw [sizeLine_eq]; omega
          · exact dpAll_snoc (dpAll_mono (gr.bb.trans (x5.bb.trans x6.bb)) _ _ dacc) dw
          · rw [List.length_append]
            show acc.length + 1 ≤ i + 1
            omega
          · rw [ex]; exact y6
          · rw [ed, List.append_assoc]; rfl
        | false =>
          have e6' : lcS g t e (wipeR ρ vs) (xs.drop (i + 1)) c3 = some (rest, c') := e6
          rw [if_neg Bool.false_ne_true]
          exact ⟨rfl, hlt, B5, c3, acc, done, rest, hDl5, dpAll_mono (gr.bb.trans x5.bb) _ _ dacc, by omega, y5, e6', ed⟩
      exact mn _ _ _ _ _ wmono on
    · have ei : i = xs.length := by omega
      subst ei
      rw [List.drop_length] at e'
      cases e'
      refine .inl ⟨w1, ?_⟩
      rw [List.append_nil] at ed
      subst ed
      exact q Dl acc B' H' (delH H' Dl) (R.trans x y) delH_self (upd_delH hDl).symm dacc
  · rw [if_neg hz] at e2; cases e2
theorem imp_ofLJ {t : L2.TE} {f : SL} (h : ImpLJ K J0 t f) : ImpEJ K J0 t (sOfL f) := fun ad B σ H ρ c d c' Q j R e q => by
  obtain ⟨⟨ds, c1⟩, e1, e2⟩ := Option.bind_eq_some_iff.mp e
  cases e2
  refine h ad B σ H ρ c ds _ _ j R e1 fun a vs B' H' H1 x n eH dv => ?_
  subst eH
  exact q _ (upd B' a (.lst vs)) _ (R.trans x ((Grow.new x.bh n).fw x.cell)) (dp_newLst (x.bh.free n) dv)
theorem imp_enumJ {t : L2.TE} {a : SE} (h : ImpEJ K J0 t a) : ImpIJ K J0 (iEnumK K (tCons t tNil)) (sEnum a) := fun ad B σ H ρ c xs c' Q j R e q => by
  obtain ⟨⟨d, c1⟩, e1, e2⟩ := Option.bind_eq_some_iff.mp e
  obtain ⟨ys, e3, e4⟩ := Option.bind_eq_some_iff.mp e2
  cases e4
  refine h ad B σ H ρ c d _ _ j R e1 fun v B' H' x dv => ?_
  obtain ⟨t, a, vs, rfl, s1, s2⟩ := seqD_ok x.bh dv e3
  refine ⟨t, a, vs, rfl, s2 _ x.bh, q _ B' H' x fun B2 H2 m1 m2 => ?_⟩
  have sq := s2 H2 (m1.trans m2)
  have hl : (enumL ys).length = ys.length := by unfold enumL; rw [List.length_map, List.length_zipIdx]
  refine ⟨⟨vs, sq, by rw [hl, dpAll_len s1]⟩, fun i d hd => ?_⟩
  unfold enumL at hd
  rw [List.getElem?_map, List.getElem?_zipIdx] at hd
  obtain ⟨p, e5, e6⟩ := Option.map_eq_some_iff.mp hd
  obtain ⟨y, e7, e8⟩ := Option.map_eq_some_iff.mp e5
  subst e8
  subst e6
  obtain ⟨w, g1, g2⟩ := dpAll_get s1 e7
  refine ⟨⟨vs, w, sq, g1⟩, fun z H3 hy => ?_⟩
  obtain ⟨T, x', rfl, nT, rfl, f⟩ := hy
  have ex := (f vs sq).symm.trans g1
  cases ex
  obtain ⟨g, dd⟩ := Grow.newTup (K := K) (vs := [.int (i : Nat), w]) (ds := [.int ((0 + i : Nat) : Int), y]) m2 nT (.cons (by rw [Nat.zero_add]; exact .int _) (.cons (dp_mono m1 _ _ g2) .nil))
  exact ⟨_, g, dd⟩
end
end EX
/-! EXn: defs of the handled exception, with its dict; lambdas at any room; told, both ways. -/
namespace EX
open PySem PySem.Spec PyProof.Rows L2 HotX L2H LamX
/-- the handled exception's object: an instance of D, its dict dd -/
structure OfX (D : Addr) (dd : Option Addr) (q : Addr × Obj) : Prop where
  z : L2N.Zn (.ref D) dd q.2
  f : ∃ vs, q.2.data = .fields vs
/-- its dict stands -/
def DOk (dd : Option Addr) (H : Hp) : Prop := ∀ d, dd = some d → ∃ fs, H d = some (.xd fs)
/-- a def of one parameter, called with the exception that is handled: S tells its answers -/
def FnX (P : Program) (w : World) (K : PySem.W.Frag) (mg : Str → Option Value) (base : Heap) (k : Nat) (D : Addr) (dd : Option Addr) (f : Addr) (fd : FuncData) (y : Str) (S : Hp → VK → Prop) : Prop :=
  ∀ (A : Around) (l : List Env) (s : Shared) (H : Hp) (Q : VK) (q : Addr × Obj), RoomH k A → Hot1 A q → PinOk l H s q → OfX D dd q → Env0 P w K mg base A l s H → S H Q → ∀ as, BindsTo s fd as [(y, .ref q.1)] →
    codeAny (model P w) A (.call (.ref f) as) (CR CX0 l P w H s Q E0) s
theorem fn_ofX {P : Program} {w : World} {K : PySem.W.Frag} {mg : Str → Option Value} {base : Heap} {k : Nat} {D f : Addr} {dd : Option Addr} {x y : Str} {st : Stmt} {fd : FuncData} {N : List Str} {S : Hp → VK → Prop} (F : Fun K x x st f fd) (Sc : FnScope N [y] (defScope st))
    (hb : ∀ (cdv : Value) (A : Around) (l : List Env) (s : Shared) (H : Hp) (Q : VK) (q : Addr × Obj), Hot1 A q → OfX D dd q → RoomH k (A.deeper (envOfC x (defScope st) s.heap.objs.size f cdv)) → S H Q →
      ∃ t, PSs (cxE P w K mg base N x (defScope st) f cdv A l s H q) (defBody st) t ∧ t { nx := fun _ H' => Q .non H', rt := Q } (L2.start N [.ref q.1]) H) : FnX P w K mg base (k + 1) D dd f fd y S := by
  intro A l s H Q q hr hot hpin od e0 hS as hbind
  obtain ⟨oc, oD, kV, doc, pm, an, cdv, ct, osl, rfl, lk, hcd⟩ := F.ex
  have old : ∀ b o, base.get? b = some o → s.heap.get? b = some o := fun b o e => (e0.bs b o e).1
  have KX := e0.mod.kin.keeps old
  refine codeAny_call_function hr.depth (KX _ _ lk) rfl Sc.co Sc.gen rfl (PySem.W.codeRec_of KX hcd) (hbind _ _ _ _ (wpAny_newFunctionEnv_cells Sc.kind (fun z hz => ?_) fun env he s1 x1 => ?_))
  · cases List.mem_singleton.mp hz
    exact (Sc.par y (List.mem_singleton.mpr rfl)).imp id fun z => ⟨z, PySem.W.cellsFrom_some _ _ _ (.inl z)⟩
  · subst he
    obtain ⟨t, ht, hq⟩ := hb cdv A l s H Q q hot od (hr.deeper _) hS
    have I := inv_startH (E := E0) (CX := CX0) (us := [.ref q.1]) (vs := [.ref q.1]) Sc hpin e0 rfl (.cons rfl .nil) x1
    refine ⟨(e0.mod.nolimit.keeps old).keeps x1.toInCall.keep, codeAny_func (wpAny_mono (ht.run [] s1 (L2.start N [.ref q.1]) H _ I hq) (fun fl s' hs => ?_) fun e s' hs => hs)⟩
    match fl, hs with
    | .ret u, ⟨v, σ', H', J, rv, z⟩ => exact ⟨v, H', J.os, J.bare, J.base, J.hok, rv, z⟩
    | .next, ⟨σ', H', J, z⟩ => exact ⟨V.non, H', J.os, J.bare, J.base, J.hok, rfl, z⟩
    | .brk, ⟨_, _, _, z⟩ => exact z.elim
    | .cont, ⟨_, _, _, z⟩ => exact z.elim
section
variable {X : Cx} {k i : Nat} {D f : Addr} {dd : Option Addr} {fd : FuncData} {y x : Str} {S : Hp → VK → Prop} {q : Addr × Obj} {p pos : Pos} {e : Expr}
theorem pe_callX (F : FnX X.prog X.w X.K X.mg X.base k D dd f fd y S) (hr : RoomH k X.A) (hq : q ∈ X.pn) (ho : Hot1 X.A q) (od : OfX D dd q) (hg : Gl X x) (hm : X.mg x = some (.ref f)) (hk : PySem.W.keepIn X.K (.ref f) = true) (hb : Binds X.K fd [y] []) (ha : PE X e (tVar i))
    (hdb : (x == ("__debug__" : Str)) = false := by decide) (he : starEach [e] X.env = (false, eval e X.env) :: starEach [] X.env := by rfl) (hpl : (backTo pos (starEach [] X.env)).any (·.1) = false := by rfl) :
    PE X (.Call (.Name x p) [e] [] pos) (tE q.1 i S) := by
  refine ⟨fun pins s σ H Q I h => wpAny_Call_Name_kw (ld_glob I hg hm ?_ hdb)⟩
  refine PySem.W.callWith_K (h₀ := X.base) I.ok.mod.kin hk (thn ((pa_cons ha pa_nil (hs := he)).run pos pins s σ H (fun vs H1 => vs = [.ref q.1] ∧ H1 = H) I ⟨_, h.1, rfl, rfl⟩) fun us s1 ⟨vs, H1, I1, r, z1, z2⟩ => ⟨I1.kIn, ?_⟩) he hpl
  subst z1 z2
  cases r with
  | cons r0 rr =>
    cases rr
    cases r0
    obtain ⟨g1, g2, g3, g4, g5⟩ := I1.pin q (List.mem_append_left _ hq)
    have hpin : PinOk X.stack H1 s1 q := ⟨g1, g2, fun hm => (List.mem_cons.mp (I1.stkSub q.1 hm)).elim g3 g4, g5⟩
    refine wpAny_call (codeAny_mono (F X.A X.stack s1 H1 Q q hr ho hpin od I1.env0 h.2 _ (hb s1 [.ref q.1] I1.kIn rfl)) fun r s' hq => ?_)
    match r, hq with
    | .error _, z => exact (show False from z).elim
    | .ok (.ret u), z => exact I1.after z
end
theorem kitX_any {K : PySem.W.Frag} {D x : Addr} {ox : Obj} {od : Option Obj} (C : ExcC K D) : PySem.W.KitX K (.ref x) (.ref D) (fun h => PySem.W.InstAt h x ox D od) where
  ty := fun _ _ _ I => I.type
  it := fun M h X _ => by
    obtain ⟨c0, hc0, _⟩ := PySem.W.any_some C.hd
    unfold PySem.W.clsIn at hc0
    split at hc0
    · rename_i c1 d1 e1 sl1 ho1
      intro A1 Q1 E1 s1 k1 q1
      unfold isType loadHead
      exact wpAny_bind (wpAny_loadPart (k1 _ _ (X _ _ ho1)) (wpAny_pure q1))
    · cases hc0
  ne := fun h tp dd its n sl X htp => by
    obtain ⟨c0, hc0, _⟩ := PySem.W.any_some C.hd
    refine Bool.eq_false_iff.mpr fun q1 => ?_
    have e0 : D = tp := Value.ref.inj (beq_iff_eq.mp q1)
    subst e0
    unfold PySem.W.clsIn at hc0
    split at hc0
    · rename_i c1 d1 e1 sl1 ho1
      have z := (X _ _ ho1).symm.trans htp
      cases z
    · cases hc0
  ca := fun X I k => PySem.W.kx_classE X I C.hg C.hk C.hs (PySem.W.findObj_dataE (by obtain ⟨c0, hc0, _⟩ := PySem.W.any_some C.hd; rw [hc0]; rfl) C.ha C.hn C.ht) C.hm k
/-- isinstance(e, C) -/
def rIsX (K : PySem.W.Frag) (D : Addr) (dd : Option Addr) (a : Addr) : List V → Hp → VK → Prop := fun xs H Q => ∃ (c : V) (cv : Value) (b : Bool), xs = [.ref a, c] ∧ DOk dd H ∧ (∀ u, RelV c u → u = cv) ∧ PySem.W.kitOne K (.ref D) cv = some b ∧ Q (.bl b) H
def rIsXT (K : PySem.W.Frag) (D : Addr) (dd : Option Addr) (a : Addr) : List V → Hp → VK → Prop := fun xs H Q => ∃ (tp : Addr) (cs : List V) (us : List Value) (b : Bool), xs = [.ref a, .ref tp] ∧ DOk dd H ∧ H tp = some (.tup cs) ∧ Paired ClsV cs us ∧ PySem.W.kitAny K (.ref D) us = some b ∧ Q (.bl b) H
section
variable {X : Cx} {D : Addr} {dd : Option Addr} {q : Addr × Obj} {pins : List (Addr × Obj)} {σ : L2.St} {H : Hp} {s : Shared}
theorem inst_atX (hq : q ∈ X.pn) (od : OfX D dd q) (hd : DOk dd H) (I : Inv X pins σ H s) : ∃ o, PySem.W.InstAt s.heap q.1 q.2 D o := by
  have g := (I.pin q (List.mem_append_left _ hq)).1
  obtain ⟨⟨h1, h2, _⟩, vs, hv⟩ := od
  have hn : PySem.W.notCls q.2 = true := by unfold PySem.W.notCls; rw [hv] <;> rfl
  cases dd with
  | none => exact ⟨none, g, h1, hn, by rw [h2]; trivial⟩
  | some d =>
    obtain ⟨fs, hfs⟩ := hd d rfl
    have hx : ObjOk X.prog X.w H s.heap d (.xd fs) := I.hok d _ hfs
    obtain ⟨mA, hns, hr⟩ := hx
    obtain ⟨o, ho, _⟩ := lookIn_ns hns
    exact ⟨some o, g, h1, hn, by rw [h2]; exact ho⟩
theorem call_isX (C : ExcC X.K D) (hq : q ∈ X.pn) (od : OfX D dd q) : CallR X (.builtin "isinstance") (rIsX X.K D dd q.1) := by
  rintro pins s σ H xs us Q I r ⟨c, cv, b, rfl, hd, hcv, e, h⟩
  obtain ⟨u1, u2, rfl, r1, r2⟩ := vals2 r
  cases (show u1 = Value.ref q.1 from r1)
  cases hcv _ r2
  obtain ⟨o, J⟩ := inst_atX hq od hd I
  exact PySem.W.kia_one (kitX_any C) I.kIn J e (fun z => nomatch z) fun tk => ⟨.bl b, H, I.tok tk, rfl, h⟩
theorem call_isXT (C : ExcC X.K D) (hq : q ∈ X.pn) (od : OfX D dd q) : CallR X (.builtin "isinstance") (rIsXT X.K D dd q.1) := by
  rintro pins s σ H xs us Q I r ⟨tp, cs, ws, b, rfl, hd, hT, k, e, h⟩
  obtain ⟨u1, u2, rfl, r1, r2⟩ := vals2 r
  cases (show u1 = Value.ref q.1 from r1)
  cases (show u2 = Value.ref tp from r2)
  obtain ⟨o0, J⟩ := inst_atX hq od hd I
  obtain ⟨_, its, rv, o, h1, h2, n, h3⟩ := (show ObjOk X.prog X.w H s.heap tp (.tup cs) from I.hok tp _ hT)
  cases (ClsV.all k rv : its = ws)
  obtain ⟨oc, o2, dt, sl⟩ := o
  dsimp only at h2 h3
  subst h2 h3
  exact PySem.W.kia_tup (kitX_any C) I.kIn J h1 e (fun z => nomatch z) fun tk => ⟨.bl b, H, I.tok tk, rfl, h⟩
/-- e.n, n a field of the exception's own dict -/
theorem pe_xfX {C dA : Addr} {e : Expr} {te : TE} {pos : Pos} {n : Str} (T : XfC X.K C) (hno : PySem.W.findIn X.K (.ref C) n = some none) (hq : q ∈ X.pn) (od : OfX C (some dA) q) (he : PE X e te) (hb : attributeBase e n X.env (eval e X.env) = eval e X.env := by rfl) :
    PE X (.Attribute e n pos) (tXf q.1 (.ref C) (some dA) C n te) := by
  refine ⟨fun pins s σ H Q I h => ?_⟩
  refine attr_of hb (thn (he.run pins s σ H _ I h) fun u s1 hh => ?_)
  obtain ⟨x, H1, I1, rx, ex, _, dd, fs, v, ed, ea, l, q1⟩ := hh
  subst ex
  obtain rfl : u = Value.ref q.1 := rx
  cases ed
  have ha := (I1.pin q (List.mem_append_left _ hq)).1
  obtain ⟨⟨z1, z2, _⟩, vs, hd⟩ := od
  have hx : ObjOk X.prog X.w H1 s1.heap dA (.xd fs) := I1.hok dA _ ea
  obtain ⟨mA, hns, hr⟩ := hx
  obtain ⟨od, ho, hl⟩ := lookIn_ns hns
  obtain ⟨u, hu, ru⟩ := RelO.some_of (v := v) (o := mA n) (by rw [← l]; exact hr n)
  have J : PySem.W.InstAt s1.heap q.1 q.2 C (some od) := ⟨ha, z1, by unfold PySem.W.notCls; rw [hd] <;> rfl, by rw [z2]; exact ho⟩
  exact HandSPX.exc_get I1.kIn J T.ga T.gg T.exC (PySem.W.findObj_own T.hdC hno rfl (by rw [hl, hu])) (handed_of ru) ⟨v, H1, I1.tok _, ru, q1⟩
end
section
variable {X : Cx} {pins : List (Addr × Obj)} {σ : L2.St} {H : Hp} {s : Shared}
/-- the def g that calls what it got, and catches: TT: what it makes of the lambda's reading -/
def GivesM (k : Nat) (X : Cx) (Ng : List Str) (x : Str) (sg : Scope) (g : Addr) (cdg : Value) (bg : List Stmt) (a : Str) (TT : (XK → Hp → VK → Prop) → Hp → VK → Prop) : Prop :=
  ∀ (f c' : Addr) (s : Shared) (H : Hp) (Q : VK) (tl : XK → Hp → VK → Prop), Room (k + 1) (X.A.deeper (envOfC x sg s.heap.objs.size g cdg)) →
    (∀ (W : WX) (pn : List (Addr × Obj)) (xe : Value → Shared → Prop) (E : XK) (p1 p2 : Pos), L2N.Takes (cxT X Ng x sg g cdg s H pn xe) W →
      PE (cxT X Ng x sg g cdg s H pn xe) (.Call (.Name a p1) [] [] p2) (fun σZ HZ Q => σZ[0]? = some (some (.ref f)) ∧ HZ c' = some (CodeO c' (qL X)) ∧ (∀ cls d H', E cls d H' → W cls d σZ H') ∧ tl E HZ Q)) → H c' = some (CodeO c' (qL X)) → TT tl H Q →
    ∃ t, PSs (cxOf CX0 X.prog X.w X.K X.mg X.base Ng x sg g cdg X.A X.stack s H E0).nox bg t ∧ t { nx := fun _ H' => Q .non H', rt := Q } (L2.start Ng [.ref f]) H
/-- x(lambda: body) -/
theorem pe_lamM {k : Nat} {T : List (Addr × Str)} {TT : (XK → Hp → VK → Prop) → Hp → VK → Prop} {x a : Str} {g c P : Addr} {pg : Arguments} {bg : List Stmt} {sg : Scope} {dV kV doc pm cdv ct oc : Value} {an od : Option Addr} {osl : Array (Option Value)} {Ng : List Str}
    {params : Arguments} {body : Expr} {scope : Scope} {t : XK → TE} {p lpos pos : Pos} (hg : Gl X x) (hm : X.mg x = some (.ref g)) (hk : PySem.W.keepIn X.K (.ref g) = true)
    (lk : X.K.lookup g = some ⟨oc, od, .func (PySem.W.fnOf x x pg bg sg dV kV doc pm an cdv ct), osl⟩) (hcg : PySem.W.codeIn X.K cdv x = true) (hb : L2.Binds X.K (PySem.W.fnOf x x pg bg sg dV kV doc pm an cdv ct) [a] []) (Sg : FnScope Ng [a] sg) (hNg : Ng[0]? = some a) (hva : Vis sg a)
    (hG : GivesM k X Ng x sg g cdv bg a TT) (TB : TabB X.base X.mg c P) (hcode : X.env.code = .ref c) (hmT : (P, qL X) ∈ T) (hu : ∀ p ∈ T, p.1 = P → p.2 = qL X) (hr : Room (k + 2) X.A) (L : LamS X.env.scope scope) (hdef : defaultsOf params X.env = ([], []))
    (hbind : ∀ (q : Str) (cl : List (Str × Addr)) (pm cv ctv : Value), bindArgs (PySem.W.kla_fn "<lambda>" q params body scope cl pm cv ctv) ⟨[], []⟩ = pure [])
    (hbody : ∀ (A : Around) (l : List Env) (s : Shared) (H : Hp) (E : XK) (f c' : Addr), Room k (A.deeper (lamEnv X scope s.heap.objs.size f c')) → PE (lamCxN X A l s H E scope f c') body (t E))
    (hdb : (x == ("__debug__" : Str)) = false := by decide) (hd : (a == ("__debug__" : Str)) = false := by decide) (hcd : (a == ("__classdict__" : Str)) = false := by decide) :
    PE X (.Call (.Name x p) [.Lambda params body scope lpos] [] pos) (tLam T TT t) := by
  refine ⟨fun pins s σ H Q I ⟨hT, h⟩ => wpAny_Call_Name_kw (ld_glob I hg hm (PySem.W.callWith_K (h₀ := X.base) I.ok.mod.kin hk (show wpAny _ _ (spliced ((false, eval (.Lambda params body scope lpos) X.env) :: backTo pos (starEach [] X.env))) _ _ s from ?_) (by rfl) (by rfl)) hdb)⟩
  refine Calls.spliced_cons (lam_make2 I TB hcode hmT hu hT hdef (L.has I.ok) fun f c' pm' ctv H1 s' I1 eN T1 hf hfn hfr hco => Calls.spliced_nil ⟨I1.kIn, ?_⟩)
  have rc : codeAny (model X.prog X.w) X.A (.call (.ref g) ⟨[.ref f], []⟩) (CR CX0 X.stack X.prog X.w H1 s' Q E0) s' :=
    run_ofS (N := Ng) (ps := [a]) (us := [.ref f]) (vs := [.ref f]) (k := k + 1) lk hcg Sg hr I1.env0 (hb s' [.ref f] I1.kIn rfl) (.cons rfl .nil) rfl fun hr' => by
      obtain ⟨t', ht', hq'⟩ := hG f c' s' H1 Q (fun E H' Q' => t E σ H' Q') hr' (fun W pn xe E p1 p2 tk => pe_actN (k := k) (i := 0) I1 L hf hfn hfr (hbind _ _ _ _ _) tk hr' (fun A l s H hr2 => hbody A l s H E f c' hr2) hNg hva hd hcd) hco (h H1 eN T1)
      exact ⟨t', ht'.nox, hq'⟩
  refine wpAny_call (codeAny_mono rc fun r s2 hq => ?_)
  match r, hq with
  | .error _, z => exact (show False from z).elim
  | .ok (.ret u), z => exact I1.after z
end
/-! ### on data -/
open DL
section
variable {K : PySem.W.Frag} {Dc a : Addr} {dd : Option Addr} {i : Nat} {J : Hp}
theorem DOk.mono {H H' : Hp} (h : DOk dd H) (s : Same H H') : DOk dd H' := fun d e => let ⟨fs, z⟩ := h d e; ⟨fs, s _ _ z⟩
theorem imp_isXJ {u : V} {cv : Value} {b : Bool} (hj : DOk dd J) (hc : ∀ z, RelV u z → z = cv) (hk : PySem.W.kitOne K (.ref Dc) cv = some b) : ImpEJ K J (tCB (rIsX K Dc dd a) (tCons (tVar i) (tCons (tC u) tNil))) (sIs i (.ref a) b) := fun ad B σ H ρ c d c' Q j R e q => by
  obtain ⟨e0, rfl, rfl⟩ := sIs_slot e
  exact ⟨.ref a, R.slot i _ e0, u, cv, b, rfl, hj.mono (j.trans R.sub), hc, hk, q _ B H R.fwRefl (.bl b)⟩
theorem imp_isXTJ {u1 u2 : V} {c1 c2 : Value} {b : Bool} (hj : DOk dd J) (h1 : ClsV u1 c1) (h2 : ClsV u2 c2) (hk : PySem.W.kitAny K (.ref Dc) [c1, c2] = some b) :
    ImpEJ K J (tCB (rIsXT K Dc dd a) (tCons (tVar i) (tCons (tTup (tCons (tC u1) (tCons (tC u2) tNil))) tNil))) (sIs i (.ref a) b) := fun ad B σ H ρ c d c' Q j R e q => by
  obtain ⟨e0, rfl, rfl⟩ := sIs_slot e
  refine ⟨.ref a, R.slot i _ e0, by show 2 ≤ sizeLine; decide, fun p np => ⟨p, [u1, u2], [c1, c2], b, rfl, hj.mono ((j.trans R.sub).trans (same_new np)), upd_same, .cons h1 (.cons h2 .nil), hk, ?_⟩⟩
  refine q _ B _ ⟨Same.refl _, R.sub.trans (same_new np), fun x o _ h => same_new np x o h, fun x e => same_new np x _ (R.cell x e), fun x o h n => by rw [h] at n; cases n⟩ (.bl b)
/-- the answer d, where the exception's dict stands -/
def spX (K : PySem.W.Frag) (dd : Option Addr) (P : Hp → Prop) (d : D) : Hp → VK → Prop := fun H Q => ∃ B, Same B H ∧ DOk dd B ∧ P B ∧ ∀ v B' H', Grow B H B' H' → DL.Dp K B' v d → Q v H'
section
variable {P : Program} {w : World} {mg : Str → Option Value} {base : Heap} {x y : Str} {st : Stmt} {f : Addr} {fd : FuncData} {N : List Str} {k n : Nat} {C : Addr} {PB : Hp → Prop}
theorem okX {d : D} (F : Fun K x x st f fd) (S : FnScope N [y] (defScope st)) (hN : N.length = n + 1)
    (hb : ∀ (cdv : Value) (A : Around) (l : List Env) (s : Shared) (H : Hp) (q : Addr × Obj) (J : Hp), Hot1 A q → OfX C dd q → RoomH k (A.deeper (envOfC x (defScope st) s.heap.objs.size f cdv)) → DOk dd J → PB J →
      ∃ t g, PSs (cxE P w K mg base N x (defScope st) f cdv A l s H q) (defBody st) t ∧ ImpSJ K J t g ∧ ∃ ρ' c', g (.op (.ref q.1) :: List.replicate n .un) (0, 0) = some (.rt d, ρ', c')) : FnX P w K mg base (k + 1) C dd f fd y (spX K dd PB d) :=
  fn_ofX F S fun cdv A l s H Q q hot od hr ⟨B, sB, dB, pB, hQ⟩ => by
    obtain ⟨t, g, ht, im, ρ', c', e⟩ := hb cdv A l s H q B hot od hr dB pB
    refine ⟨t, ht, im none B _ H _ (0, 0) _ _ (Same.refl _) (rl_startE sB hN) e fun v B' σ' H' R' z dv => hQ v B' H' ?_ dv⟩
    have no : ∀ a, ¬ Owned (Sl.op (.ref q.1) :: List.replicate n .un) (L2.start N [.ref q.1]) a := noOwned fun i s e => by
      match i, e with
      | 0, e => cases e; rfl
      | i + 1, e => rw [(List.mem_replicate.mp (List.mem_of_getElem? (show (List.replicate n Sl.un)[i]? = some s from e))).2]; rfl
    exact ⟨z.bb, R'.sub, fun a o e => z.keep a o (fun e => nomatch e) e (no a), fun a o e1 e2 => (z.fresh a o e1 e2).elim id fun u => absurd u (no a)⟩
end
/-- what is told for the opaque v in the slot i -/
noncomputable def sGive (i : Nat) (v : V) (d : D) : SE := open Classical in fun ρ c => if ρ[i]? = some (.op v) then some (d, c) else none
theorem sGive_slot {v : V} {z d : D} {ρ : Rho} {c c' : Dr} (h : sGive i v z ρ c = some (d, c')) : ρ[i]? = some (.op v) ∧ d = z ∧ c' = c := by
  unfold sGive at h
  split at h
  · rename_i e
    cases h
    exact ⟨e, rfl, rfl⟩
  · cases h
theorem sGive_eq {v : V} {z : D} {ρ : Rho} {c : Dr} (h : ρ[i]? = some (.op v)) : sGive i v z ρ c = some (z, c) := if_pos h
theorem imp_giveX {z : D} {PB : Hp → Prop} (hj : DOk dd J) (pj : ∀ B, Same J B → PB B) : ImpEJ K J (tE a i (spX K dd PB z)) (sGive i (.ref a) z) := fun ad B σ H ρ c d c' Q j R e q => by
  obtain ⟨e0, rfl, rfl⟩ := sGive_slot e
  exact ⟨R.slot i _ e0, B, R.sub, hj.mono j, pj B j, fun v B' H' g dv => q v B' H' (g.fw fun a e => R.cell a e) dv⟩
theorem imp_xfJ {C dA : Addr} {n : Str} {v : V} {z : D} (hj : J dA = some (.xd [(n, v)])) (dv : ∀ B, Same J B → DL.Dp K B v z) : ImpEJ K J (tXf a (.ref C) (some dA) C n (tVar i)) (sGive i (.ref a) z) := fun ad B σ H ρ c d c' Q j R e q => by
  obtain ⟨e0, rfl, rfl⟩ := sGive_slot e
  refine ⟨.ref a, R.slot i _ e0, rfl, rfl, dA, [(n, v)], v, rfl, R.sub _ _ (j _ _ hj), by rw [lookup_put, if_pos rfl], q v B H R.fwRefl (dv B j)⟩
end
end EX
/-! EXo: an own exception whose __init__ calls its base's by an own class's name; raised with its context None. -/
namespace EX
open PySem PySem.Spec PyProof.Rows L2
/-- what is asked of the own class by whose name the base's __init__ is called -/
structure InitBy (K : PySem.W.Frag) (N : Addr) : Prop where
  ga : PySem.W.specialIn K (.ref N) "__getattribute__" = some (some (.builtin "type.__getattribute__"))
  rd : PySem.W.readsIn K N (.type "type") = true
  at_ : PySem.W.findCls K (.ref N) (.type "type") "__init__" = some (.val (.builtin "ValueError.__init__"))
section
variable {X : Cx} {e : Expr} {es : List Expr} {ta : TA} {x : Str} {N : Addr} {p1 p2 pos : Pos} {pl : Sem Bool}
/-- N.__init__(self, ..) -/
theorem pe_ninit (B : InitBy X.K N) (hg : Gl X x) (hm : X.mg x = some (.ref N)) (ha : PA X (e :: es) ta) (hdb : (x == ("__debug__" : Str)) = false := by decide)
    (hc : eval (.Call (.Attribute (.Name x p1) "__init__" p2) (e :: es) [] pos) X.env = (do
      let ov ← eval (.Name x p1) X.env
      standAt p2.atName
      let (f, first) ← holding [ov] (getMethod ov "__init__" pl)
      callWith pos f first (backTo pos (starEach (e :: es) X.env)) (backToKw pos (keywordEach [] X.env))) := by rfl)
    (he : starEach (e :: es) X.env = (false, eval e X.env) :: starEach es X.env := by rfl) (hpl : (backTo pos (starEach es X.env)).any (·.1) = false := by rfl) :
    PE X (.Call (.Attribute (.Name x p1) "__init__" p2) (e :: es) [] pos) (tVeI X.K ta) := by
  refine ⟨fun pins s σ H Q I h => PySem.W.methodCall_KW (ld_glob I hg hm ?_ hdb) hc⟩
  refine PySem.W.method_cls I.kIn B.ga (PySem.W.cls_value I.kIn B.rd B.at_ rfl ?_)
  show wpAny _ _ (callWith pos (Value.builtin "ValueError.__init__") [] (backTo pos (starEach (e :: es) X.env)) []) _ _ _
  refine PyProof.Rows.callWith_method1 (thn (ha.run pos pins _ σ H _ (I.tok _) h) fun us s1 hh => ?_) he hpl
  obtain ⟨vs, H1, J, rv, a, C, ws, ev, hl, T, ea, q⟩ := hh
  subst ev
  cases rv with
  | @cons _ u _ ur r0 rr =>
    cases (show u = Value.ref a from r0)
    have hn : ur.length ≤ sizeLine := by
      have := Paired.length rr
      rw [sizeLine_eq]
      omega
    exact oinit_ok T J ea hn fun s2 J2 => ⟨.non, H1, J2, rfl, q⟩
end
section
variable {X : Cx} {e : Expr} {es : List Expr} {ta : TA} {p pos : Pos}
/-- C(e, ..): as pmk_oex, the context known -/
theorem pmkN_oex {CX : CXT} {x : Str} {C fI : Addr} {k : Nat} {fd : FuncData} {ps : List Str} {sp : Sp} (T : OexC X.K C) (iC : PySem.W.findIn X.K (.ref C) "__init__" = some (some (.ref fI))) (tI : PySem.W.typeIn X.K (.ref fI) = some (.type "function"))
    (F1 : FnOk X.prog X.w X.K X.mg X.base CX k fI fd ps sp) (hr : Room (k + 1) X.A) (hb : Binds X.K fd ps []) (hx : Passes CX X (fun _ _ _ => False)) (hg : Gl X x) (hm : X.mg x = some (.ref C)) (ha : PA X (e :: es) ta)
    (hdb : (x == ("__debug__" : Str)) = false := by decide) (he : starEach (e :: es) X.env = (false, eval e X.env) :: starEach es X.env := by rfl) (hpl : (backTo pos (starEach es X.env)).any (·.1) = false := by rfl) :
    L2N.PMk X (.Call (.Name x p) (e :: es) [] pos) (tMkO C sp [] ta) := fun pins s σ H Q I h => by
  obtain ⟨nm, q, N, bs, bm, sn, sub, ab, col, dd, k0, k1, k2, k3, k5, hC, hbm⟩ := T.cls
  refine wpAny_Call_Name_kw (ld_glob I hg hm (PySem.W.callWith_K (h₀ := X.base) I.ok.mod.kin T.kC (thn (ha.run pos pins s σ H _ I h) fun us s1 hh => ?_) he hpl) hdb)
  obtain ⟨vs, H1, J, rv, hz, q1⟩ := hh
  refine ⟨J.kIn, ?_⟩
  show wpAny _ _ (call (.ref C) us) _ _ _
  obtain ⟨h0, g0, d0, t0, os0⟩ := s1
  have hle : h0.objs.size ≤ h0.objs.size + 1 := Nat.le_succ _
  have hfree : H1 (h0.objs.size + 1) = none := J.hok.fresh hle
  have hq := q1 (h0.objs.size + 1) hfree
  have grows : ∀ b o, h0.get? b = some o → ((h0.push (PySem.W.kdv_tup us)).push (PySem.HandSPX.excO C h0.objs.size)).get? b = some o := fun b o e1 => Heap.get?_push_of_some _ (Heap.get?_push_of_some _ e1)
  have isAt : ((h0.push (PySem.W.kdv_tup us)).push (PySem.HandSPX.excO C h0.objs.size)).get? (h0.objs.size + 1) = some (PySem.HandSPX.excO C h0.objs.size) := by heap_get
  have J2 := J.laid (t' := t0) (a := h0.objs.size + 1) (o := exo (h0.objs.size + 1) C none) (h' := (h0.push (PySem.W.kdv_tup us)).push (PySem.HandSPX.excO C h0.objs.size)) grows hle (exo_ok isAt)
  have r2 : Vals (V.ref (h0.objs.size + 1) :: (vs ++ [])) (Value.ref (h0.objs.size + 1) :: (us ++ [])) := .cons rfl (rv.append .nil)
  have hlen : (Value.ref (h0.objs.size + 1) :: us ++ []).length = ps.length := by
    have e1 := r2.length
    rw [F1.len _ _ _ _ hq] at e1
    exact e1.symm
  have hfew : us.length ≤ sizeLine := by
    have := Paired.length rv
    rw [sizeLine_eq]
    omega
  refine wpAny_call (PySem.HandSPX.call_own F.excBase_ValueError (fun Y => PySem.HandSPX.refsVE_contains Y bm hbm) (J.kIn _ _ hC) (PySem.W.looks_findIn J.kIn iC) (fun self => PySem.W.bind_fn J.kIn self tI) hfew (codeAny_mono (F1.run _ X.stack _ _ ⟨Value.ref (h0.objs.size + 1) :: us, []⟩ _ _ _ (fun _ _ _ => False) (hr.make C us []) (J2.env0.make C us []) (hb _ (Value.ref (h0.objs.size + 1) :: us) J2.kIn hlen) r2 hq) fun r s' hq' => ?_))
  match r, hq' with
  | .error er, z => exact hx pins σ _ _ er s' J2 z
  | .ok (.ret u), z =>
    obtain ⟨v, H2, os2, bare2, un2, hok2, ru, ev, d, fs, ea, ed, hd1, q2⟩ := z
    subst ev
    obtain ⟨h2, g2, d2, t2, os'⟩ := s'
    obtain ⟨t1, G, J3, kG, ge, hoe, na⟩ := mk_end0 (d2 := d2) (t2 := t2) J hle grows un2 hok2 os2 bare2 ea ed hd1
    exact ⟨ru, _, _, _, ⟨G, g2, d2, t2, os'⟩, _, .ref C, some d, rfl, J3, kG, ge, hoe, ⟨rfl, rfl, fun vs e1 => by cases e1; rfl⟩, rfl, rfl, na, rfl, bare2, raises_own T.exC T.tyC, q2⟩
end
/-- __init__(self, place) of such a class -/
def spFI (K : PySem.W.Frag) (C : Addr) : Sp := fun vs H Q _ => ∃ (a : Addr) (v : V), vs = [.ref a, v] ∧ OexC K C ∧ PySem.W.findIn K (.ref C) "place" = some none ∧ H a = some (exo a C none) ∧
  ∀ dx, H dx = none → dx ≠ a → Q .non (upd (upd H dx (exd dx [("place", v)])) a (exo a C (some dx)))
theorem fi_read {K : PySem.W.Frag} {C a : Addr} {v : V} {m : Str} {D : Ends} {σ : L2.St} {H : Hp} (h0 : σ[0]? = some (some (.ref a))) (h1 : σ[1]? = some (some v)) (T : OexC K C) (n : PySem.W.findIn K (.ref C) "place" = some none) (ha : H a = some (exo a C none))
    (q : ∀ dx, H dx = none → dx ≠ a → D.nx σ (upd (upd H dx (exd dx [("place", v)])) a (exo a C (some dx)))) : tSeq (tDrop (tVeI K (tCons (tVar 0) (tCons (tC (.str m)) tNil)))) (tOst K "place" (tVar 0) (tVar 1)) D σ H :=
  ⟨.ref a, h0, a, C, [.str m], rfl, (by show 1 ≤ 1000; decide), T, ha, v, h1, .ref a, h0, a, C, rfl, T, n, .inl ⟨ha, q⟩⟩
/-- raise C(v) -/
theorem mko_read {K : PySem.W.Frag} {C : Addr} {v : V} {i : Nat} {σ : L2.St} {H : Hp} {E : XK} (hi : σ[i]? = some (some v)) (T : OexC K C) (n : PySem.W.findIn K (.ref C) "place" = some none) (q : ∀ d, H d = none → E (.ref C) (some d) (upd H d (.xd [("place", v)]))) :
    tMkO C (spFI K C) [] (tCons (tVar i) tNil) σ H E := by
  refine ⟨v, hi, (by show 1 ≤ 1000; decide), fun a na => ⟨a, v, rfl, T, n, upd_same, fun dx nx ne => ⟨rfl, dx, [("place", v)], upd_same, ?_, ?_, ?_⟩⟩⟩
  · rw [upd_ne ne, upd_same]
  · rw [← upd_ne (H := H) (o := exo a C none) ne]; exact nx
  · have nd : H dx = none := by rw [← upd_ne (H := H) (o := exo a C none) ne]; exact nx
    have e : upd (del (upd (upd (upd H a (exo a C none)) dx (exd dx [("place", v)])) a (exo a C (some dx))) a) dx (.xd [("place", v)]) = upd H dx (.xd [("place", v)]) := by
      funext b
      by_cases h1 : b = dx
      · rw [h1, upd_same, upd_same]
      · rw [upd_ne h1, upd_ne h1]
        by_cases h2 : b = a
        · rw [h2, del_same, na]
        · rw [del_ne h2, upd_ne h2, upd_ne h1, upd_ne h2]
    rw [e]
    exact q dx nd
end EX
namespace EX
open PySem PySem.Spec L2 DL
theorem imp_tupJ {K : PySem.W.Frag} {J0 : Hp} {t : TA} {a : SA} (ha : ImpAJ K J0 t a) : ImpEJ K J0 (tTup t) (sTup a) := fun ad B σ H ρ c d c' Q j R h q => by
  unfold sTup at h
  obtain ⟨⟨x, c1⟩, h1, h⟩ := Option.bind_eq_some_iff.mp h
  split at h
  · rename_i hz
    cases h
    refine ha ad B σ H ρ c x _ _ j R h1 fun vs B1 H1 f1 d1 => ⟨by rw [dpAll_len d1]; exact few_line hz, fun p np => ?_⟩
    exact q _ (upd B1 p (.tup vs)) _ (R.trans f1 ((Grow.new f1.bh np).fw f1.cell)) (dp_newTup (f1.bh.free np) d1)
  · cases h
theorem kit_own {K : PySem.W.Frag} {S C : Addr} {b : Bool} (i : PySem.W.isClsIn K C = true) (t : PySem.W.typeIn K (.ref C) = some (.type "type")) (s : PySem.W.subIn K (.ref S) (.ref C) = some b) (me : PySem.W.subIn K (.ref S) (.ref S) = some true) : PySem.W.kitOne K (.ref S) (.ref C) = some b :=
  OneC.kit (mg := fun _ => some (.ref C)) (x := "x") ⟨rfl, i, t, s⟩ me
theorem kit_ve {K : PySem.W.Frag} {S : Addr} (v : PySem.W.subIn K (.ref S) (.type "ValueError") = some true) : PySem.W.kitOne K (.ref S) (.type "ValueError") = some true := by
  unfold PySem.W.kitOne
  rw [if_neg (show ¬ (Value.ref S == Value.type "ValueError") = true from by intro z; cases eq_of_beq z)]
  show (if PySem.W.kitMeta "ValueError" = true then PySem.W.subIn K (.ref S) (.type "ValueError") else none) = some true
  rw [if_pos (by decide +kernel)]; exact v
end EX
namespace X
open PySem PySem.Spec L2 DL EX L2H

structure TC (K : PySem.W.Frag) (mg : Str → Option Value) where
  b_zip : mg "zip" = none
  b_ValueError : mg "ValueError" = none
  b_enumerate : mg "enumerate" = none
  F : Addr
  fg : mg "FrameError" = some (.ref F)
  C_Empty : Addr
  g_Empty : mg "Empty" = some (.ref C_Empty)
  i_Empty : PySem.W.isClsIn K C_Empty = true
  t_Empty : PySem.W.typeIn K (.ref C_Empty) = some (.type "type")
  C_FormError : Addr
  g_FormError : mg "FormError" = some (.ref C_FormError)
  i_FormError : PySem.W.isClsIn K C_FormError = true
  t_FormError : PySem.W.typeIn K (.ref C_FormError) = some (.type "type")
  C_Full : Addr
  g_Full : mg "Full" = some (.ref C_Full)
  i_Full : PySem.W.isClsIn K C_Full = true
  t_Full : PySem.W.typeIn K (.ref C_Full) = some (.type "type")
  C_NoCap : Addr
  g_NoCap : mg "NoCap" = some (.ref C_NoCap)
  i_NoCap : PySem.W.isClsIn K C_NoCap = true
  t_NoCap : PySem.W.typeIn K (.ref C_NoCap) = some (.type "type")
  C_NoFrame : Addr
  g_NoFrame : mg "NoFrame" = some (.ref C_NoFrame)
  i_NoFrame : PySem.W.isClsIn K C_NoFrame = true
  t_NoFrame : PySem.W.typeIn K (.ref C_NoFrame) = some (.type "type")
  C_NoPlace : Addr
  g_NoPlace : mg "NoPlace" = some (.ref C_NoPlace)
  i_NoPlace : PySem.W.isClsIn K C_NoPlace = true
  t_NoPlace : PySem.W.typeIn K (.ref C_NoPlace) = some (.type "type")
  C_NoRow : Addr
  g_NoRow : mg "NoRow" = some (.ref C_NoRow)
  i_NoRow : PySem.W.isClsIn K C_NoRow = true
  t_NoRow : PySem.W.typeIn K (.ref C_NoRow) = some (.type "type")
  C_NothingLeft : Addr
  g_NothingLeft : mg "NothingLeft" = some (.ref C_NothingLeft)
  i_NothingLeft : PySem.W.isClsIn K C_NothingLeft = true
  t_NothingLeft : PySem.W.typeIn K (.ref C_NothingLeft) = some (.type "type")
  C_NowError : Addr
  g_NowError : mg "NowError" = some (.ref C_NowError)
  i_NowError : PySem.W.isClsIn K C_NowError = true
  t_NowError : PySem.W.typeIn K (.ref C_NowError) = some (.type "type")
  C_Short : Addr
  g_Short : mg "Short" = some (.ref C_Short)
  i_Short : PySem.W.isClsIn K C_Short = true
  t_Short : PySem.W.typeIn K (.ref C_Short) = some (.type "type")
/-- a class that is raised: what it is under -/
structure Rz (K : PySem.W.Frag) (mg : Str → Option Value) (U : TC K mg) (D : Addr) (b0 b1 b2 b3 b4 b5 b6 b7 b8 b9 : Bool) : Prop where
  s0 : PySem.W.subIn K (.ref D) (.ref U.C_Empty) = some b0
  s1 : PySem.W.subIn K (.ref D) (.ref U.C_FormError) = some b1
  s2 : PySem.W.subIn K (.ref D) (.ref U.C_Full) = some b2
  s3 : PySem.W.subIn K (.ref D) (.ref U.C_NoCap) = some b3
  s4 : PySem.W.subIn K (.ref D) (.ref U.C_NoFrame) = some b4
  s5 : PySem.W.subIn K (.ref D) (.ref U.C_NoPlace) = some b5
  s6 : PySem.W.subIn K (.ref D) (.ref U.C_NoRow) = some b6
  s7 : PySem.W.subIn K (.ref D) (.ref U.C_NothingLeft) = some b7
  s8 : PySem.W.subIn K (.ref D) (.ref U.C_NowError) = some b8
  s9 : PySem.W.subIn K (.ref D) (.ref U.C_Short) = some b9
  me : PySem.W.subIn K (.ref D) (.ref D) = some true
  v : PySem.W.subIn K (.ref D) (.type "ValueError") = some true
  e : ExcC K D
  fx : PySem.W.exmOne K (.ref D) (.ref U.F) = some true
section
variable {P : Program} {w : World} {K : PySem.W.Frag} {mg : Str → Option Value} {base : Heap} {b0 b1 b2 b3 b4 b5 b6 b7 b8 b9 : Bool} {dd : Option Addr} {D : Addr}
noncomputable def S_l_kind_of (b0 b1 b2 b3 b4 b5 b6 b7 b8 b9 : Bool) (a : Addr) : SS := sSeq (sAsg (sLst (sCons (sIs 0 (.ref a) b0) (sCons (sIs 0 (.ref a) b1) (sCons (sIs 0 (.ref a) b2) (sCons (sIs 0 (.ref a) b3) sNil))))) (qN 1)) (sSeq (sAsg (sOp addD (sV 1) (sLst (sCons (sIs 0 (.ref a) b4) (sCons (sIs 0 (.ref a) b5) (sCons (sIs 0 (.ref a) b6) (sCons (sIs 0 (.ref a) b7) sNil)))))) (qN 1)) (sSeq (sAsg (sOp addD (sV 1) (sLst (sCons (sIs 0 (.ref a) b8) (sCons (sIs 0 (.ref a) b9) (sCons (sIs 0 (.ref a) true) sNil))))) (qN 1)) (sSeq (sAsg (sLst (sCons (sC (.str "Empty")) (sCons (sC (.str "FormError")) (sCons (sC (.str "Full")) (sCons (sC (.str "NoCap")) (sCons (sC (.str "NoFrame")) (sCons (sC (.str "NoPlace")) (sCons (sC (.str "NoRow")) (sCons (sC (.str "NothingLeft")) (sCons (sC (.str "NowError")) (sCons (sC (.str "Short")) sNil))))))))))) (qN 2)) (sRet (sJoin (sC (.str " ")) (sOfL (sLc (sZipH (sOp addD (sV 2) (sLst (sCons (sC (.str "+")) sNil))) (sV 1)) (qTup (qCons (qN 3) (qCons (qN 4) qNil))) (sB (sV 4)) (sV 3) [3, 4])))))))
def KindIs (b0 b1 b2 b3 b4 b5 b6 b7 b8 b9 : Bool) (s : Str) : Prop := ∀ a, ∃ ρ' c', S_l_kind_of b0 b1 b2 b3 b4 b5 b6 b7 b8 b9 a (.op (.ref a) :: List.replicate 4 .un) (0, 0) = some (.rt (.str s), ρ', c')
theorem ok_l_kind_of {s : Str} (T : TX K mg) (U : TC K mg) (Z : Rz K mg U D b0 b1 b2 b3 b4 b5 b6 b7 b8 b9) (hev : KindIs b0 b1 b2 b3 b4 b5 b6 b7 b8 b9 s) : FnX P w K mg base 2 D dd T.f_l_kind_of T.d_l_kind_of "e" (spX K dd (fun _ => True) (.str s)) := by
  refine okX (k := 1) (n := 4) T.F_l_kind_of sc_l_kind_of rfl fun cdv A l s H q J hot od hr dj _ => ?_
  have hq : q ∈ (cxE P w K mg base N_l_kind_of "_law_kind_of" (defScope s_l_kind_of) T.f_l_kind_of cdv A l s H q).pn := List.mem_singleton.mpr rfl
  refine ⟨_, S_l_kind_of b0 b1 b2 b3 b4 b5 b6 b7 b8 b9 q.1, pss_cons (ps_set (i := 1) sc_l_kind_of.nd rfl (by first | exact Or.inl rfl | exact Or.inr rfl) (pe_lst (pa_cons (pe_callB (call_isX (q := q) Z.e hq od) (by rfl) T.b_isinstance (by decide +kernel) (pa_cons (pv 0) (pa_cons (pe_glob (v := .ref U.C_Empty) (by rfl) U.g_Empty rfl) pa_nil))) (pa_cons (pe_callB (call_isX (q := q) Z.e hq od) (by rfl) T.b_isinstance (by decide +kernel) (pa_cons (pv 0) (pa_cons (pe_glob (v := .ref U.C_FormError) (by rfl) U.g_FormError rfl) pa_nil))) (pa_cons (pe_callB (call_isX (q := q) Z.e hq od) (by rfl) T.b_isinstance (by decide +kernel) (pa_cons (pv 0) (pa_cons (pe_glob (v := .ref U.C_Full) (by rfl) U.g_Full rfl) pa_nil))) (pa_cons (pe_callB (call_isX (q := q) Z.e hq od) (by rfl) T.b_isinstance (by decide +kernel) (pa_cons (pv 0) (pa_cons (pe_glob (v := .ref U.C_NoCap) (by rfl) U.g_NoCap rfl) pa_nil))) pa_nil)))))) (pss_cons (ps_set (i := 1) sc_l_kind_of.nd rfl (by first | exact Or.inl rfl | exact Or.inr rfl) (pe_op (op_addK (K := K) rfl) (pv 1) (pe_lst (pa_cons (pe_callB (call_isX (q := q) Z.e hq od) (by rfl) T.b_isinstance (by decide +kernel) (pa_cons (pv 0) (pa_cons (pe_glob (v := .ref U.C_NoFrame) (by rfl) U.g_NoFrame rfl) pa_nil))) (pa_cons (pe_callB (call_isX (q := q) Z.e hq od) (by rfl) T.b_isinstance (by decide +kernel) (pa_cons (pv 0) (pa_cons (pe_glob (v := .ref U.C_NoPlace) (by rfl) U.g_NoPlace rfl) pa_nil))) (pa_cons (pe_callB (call_isX (q := q) Z.e hq od) (by rfl) T.b_isinstance (by decide +kernel) (pa_cons (pv 0) (pa_cons (pe_glob (v := .ref U.C_NoRow) (by rfl) U.g_NoRow rfl) pa_nil))) (pa_cons (pe_callB (call_isX (q := q) Z.e hq od) (by rfl) T.b_isinstance (by decide +kernel) (pa_cons (pv 0) (pa_cons (pe_glob (v := .ref U.C_NothingLeft) (by rfl) U.g_NothingLeft rfl) pa_nil))) pa_nil))))))) (pss_cons (ps_set (i := 1) sc_l_kind_of.nd rfl (by first | exact Or.inl rfl | exact Or.inr rfl) (pe_op (op_addK (K := K) rfl) (pv 1) (pe_lst (pa_cons (pe_callB (call_isX (q := q) Z.e hq od) (by rfl) T.b_isinstance (by decide +kernel) (pa_cons (pv 0) (pa_cons (pe_glob (v := .ref U.C_NowError) (by rfl) U.g_NowError rfl) pa_nil))) (pa_cons (pe_callB (call_isX (q := q) Z.e hq od) (by rfl) T.b_isinstance (by decide +kernel) (pa_cons (pv 0) (pa_cons (pe_glob (v := .ref U.C_Short) (by rfl) U.g_Short rfl) pa_nil))) (pa_cons (pe_callB (call_isX (q := q) Z.e hq od) (by rfl) T.b_isinstance (by decide +kernel) (pa_cons (pv 0) (pa_cons (pe_bltn (v := .ty "ValueError") (by rfl) U.b_ValueError (by decide +kernel) rfl) pa_nil))) pa_nil)))))) (pss_cons (ps_set (i := 2) sc_l_kind_of.nd rfl (by first | exact Or.inl rfl | exact Or.inr rfl) (pe_lst (pa_cons pe_str (pa_cons pe_str (pa_cons pe_str (pa_cons pe_str (pa_cons pe_str (pa_cons pe_str (pa_cons pe_str (pa_cons pe_str (pa_cons pe_str (pa_cons pe_str pa_nil)))))))))))) (pss_one (ps_ret (pe_join pe_str (pe_lcH (own := [("title", 3), ("one", 4)]) hq hot sc_l_kind_of.nd (pi_zipH (by rfl) U.b_zip (pa_cons (pe_op (op_addK (K := K) rfl) (pv 2) (pe_lst (pa_cons pe_str pa_nil))) (pa_cons (pv 1) pa_nil))) (blkOk_by (own := [("title", 3), ("one", 4)]) (N := N_l_kind_of) (sc := defScope s_l_kind_of) (by decide +kernel)) (fun _ _ _ _ _ => pg_tupHK (K := K) (n := 2) rfl ⟨q, hot, List.mem_singleton.mpr rfl⟩ (pgs_cons (pg_name (i := 3) sc_l_kind_of.nd rfl (by first | exact Or.inl rfl | exact Or.inr rfl)) (pgs_cons (pg_name (i := 4) sc_l_kind_of.nd rfl (by first | exact Or.inl rfl | exact Or.inr rfl)) pgs_nil))) (fun _ _ _ _ _ => pts_one (pt_val (pv 4))) (fun _ _ _ _ _ => pv 3)))))))), ?_, hev q.1⟩
  exact imp_seqJ (imp_asgJ (imp_lstJ (imp_consJ (imp_isXJ dj (fun _ r => r) (kit_own U.i_Empty U.t_Empty Z.s0 Z.me)) (imp_consJ (imp_isXJ dj (fun _ r => r) (kit_own U.i_FormError U.t_FormError Z.s1 Z.me)) (imp_consJ (imp_isXJ dj (fun _ r => r) (kit_own U.i_Full U.t_Full Z.s2 Z.me)) (imp_consJ (imp_isXJ dj (fun _ r => r) (kit_own U.i_NoCap U.t_NoCap Z.s3 Z.me)) imp_nilJ))))) (imp_gN 1)) (imp_seqJ (imp_asgJ (imp_opJ d_add (jE (imp_v 1)) (imp_lstJ (imp_consJ (imp_isXJ dj (fun _ r => r) (kit_own U.i_NoFrame U.t_NoFrame Z.s4 Z.me)) (imp_consJ (imp_isXJ dj (fun _ r => r) (kit_own U.i_NoPlace U.t_NoPlace Z.s5 Z.me)) (imp_consJ (imp_isXJ dj (fun _ r => r) (kit_own U.i_NoRow U.t_NoRow Z.s6 Z.me)) (imp_consJ (imp_isXJ dj (fun _ r => r) (kit_own U.i_NothingLeft U.t_NothingLeft Z.s7 Z.me)) imp_nilJ)))))) (imp_gN 1)) (imp_seqJ (imp_asgJ (imp_opJ d_add (jE (imp_v 1)) (imp_lstJ (imp_consJ (imp_isXJ dj (fun _ r => r) (kit_own U.i_NowError U.t_NowError Z.s8 Z.me)) (imp_consJ (imp_isXJ dj (fun _ r => r) (kit_own U.i_Short U.t_Short Z.s9 Z.me)) (imp_consJ (imp_isXJ dj (fun _ r => r) (kit_ve Z.v)) imp_nilJ))))) (imp_gN 1)) (imp_seqJ (imp_asgJ (imp_lstJ (imp_consJ (jE imp_str) (imp_consJ (jE imp_str) (imp_consJ (jE imp_str) (imp_consJ (jE imp_str) (imp_consJ (jE imp_str) (imp_consJ (jE imp_str) (imp_consJ (jE imp_str) (imp_consJ (jE imp_str) (imp_consJ (jE imp_str) (imp_consJ (jE imp_str) imp_nilJ))))))))))) (imp_gN 2)) (jS (imp_ret (imp_join imp_str (imp_ofL (imp_lc (vs := [3, 4]) (imp_zipH (imp_op d_add (imp_v 2) (imp_lst (imp_cons imp_str imp_nil))) (imp_v 1)) (imp_gTup (imp_gCons (imp_gN 3) (imp_gCons (imp_gN 4) imp_gNil)) (qCons_len (qCons_len qNil_len))) (only_tup (only_cons (only_N (by decide)) (only_cons (only_N (by decide)) only_nil mono_N mono_nil) mono_N (mono_cons mono_N mono_nil))) (mono_tup (mono_cons mono_N (mono_cons mono_N mono_nil))) (imp_test (imp_v 4)) (imp_v 3)))))))))
/-- refused by a class made of a text -/
noncomputable def S_rfA (a : Addr) (k : Str) : SS := sSeq (sIfS (sB (sIs 0 (.ref a) false)) sNever sNext) (sRet (sTup (sCons (sGive 0 (.ref a) (.str k)) sNil)))
theorem rfA_ev (a : Addr) (k : Str) : ∃ ρ' c', S_rfA a k (.op (.ref a) :: List.replicate 0 .un) (0, 0) = some (.rt (.tuple [.str k]), ρ', c') := by
  refine ⟨[.op (.ref a)], (0, 0), ?_⟩
  have h1 : sIs 0 (.ref a) false [.op (.ref a)] (0, 0) = some (.bool false, (0, 0)) := sIs_eq rfl
  have h2 : sGive 0 (.ref a) (.str k) [.op (.ref a)] (0, 0) = some (.str k, (0, 0)) := sGive_eq rfl
  show S_rfA a k [.op (.ref a)] (0, 0) = _
  unfold S_rfA
  rw [ev_sSeq, ev_sIfS, ev_sB, h1]
  show sRet _ [.op (.ref a)] (0, 0) = _
  rw [ev_sRet, ev_sTup, ev_sCons, h2]
  rfl
theorem ok_rfA {s : Str} (T : TX K mg) (U : TC K mg) (Z : Rz K mg U D false b1 false b3 b4 b5 b6 b7 b8 b9) (hev : KindIs false b1 false b3 b4 b5 b6 b7 b8 b9 s) : FnX P w K mg base 3 D dd T.f_l_refusal T.d_l_refusal "e" (spX K dd (fun _ => True) (.tuple [.str s])) := by
  refine okX (k := 2) (n := 0) T.F_l_refusal sc_l_refusal rfl fun cdv A l s H q J hot od hr dj _ => ?_
  have hq : q ∈ (cxE P w K mg base N_l_refusal "_law_refusal" (defScope s_l_refusal) T.f_l_refusal cdv A l s H q).pn := List.mem_singleton.mpr rfl
  refine ⟨_, S_rfA q.1 _, pss_cons (ps_if (pt_val (pe_callB (call_isXT (q := q) Z.e hq od) (by rfl) T.b_isinstance (by decide +kernel) (pa_cons (pv 0) (pa_cons (pe_tup (pa_cons (pe_glob (v := .ref U.C_Empty) (by rfl) U.g_Empty rfl) (pa_cons (pe_glob (v := .ref U.C_Full) (by rfl) U.g_Full rfl) pa_nil))) pa_nil)))) (pss_one ps_never) pss_nil) (pss_one (ps_ret (pe_tup (pa_cons (pe_callX (q := q) (i := 0) (ok_l_kind_of T U Z hev) hr hq hot od (by rfl) T.g_l_kind_of T.F_l_kind_of.kp (b_l_kind_of T) (pv 0)) pa_nil)))), ?_, rfA_ev q.1 _⟩
  exact imp_seqJ (imp_ifJ (imp_testJ (imp_isXTJ dj (.own _) (.own _) (kitAny_cons (kit_own U.i_Empty U.t_Empty Z.s0 Z.me) (fun _ => (kitAny_cons (kit_own U.i_Full U.t_Full Z.s2 Z.me) (fun _ => kitAny_nil) (fun z => nomatch z))) (fun z => nomatch z)))) (jS (imp_never fun _ _ => rfl)) (jS imp_next)) (imp_retJ (imp_tupJ (imp_consJ (imp_giveX dj fun _ _ => trivial) imp_nilJ)))
/-- refused by a class with a place -/
noncomputable def S_rfB (a : Addr) (k : Str) (d : DL.D) : SS := sSeq (sIfS (sB (sIs 0 (.ref a) true)) (sRet (sTup (sCons (sGive 0 (.ref a) (.str k)) (sCons (sGive 0 (.ref a) d) sNil)))) sNext) (sRet (sTup (sCons (sGive 0 (.ref a) (.str k)) sNil)))
theorem rfB_ev (a : Addr) (k : Str) (d : DL.D) : ∃ ρ' c', S_rfB a k d (.op (.ref a) :: List.replicate 0 .un) (0, 0) = some (.rt (.tuple [.str k, d]), ρ', c') := by
  refine ⟨[.op (.ref a)], (0, 0), ?_⟩
  have h1 : sIs 0 (.ref a) true [.op (.ref a)] (0, 0) = some (.bool true, (0, 0)) := sIs_eq rfl
  have h2 : ∀ x, sGive 0 (.ref a) x [.op (.ref a)] (0, 0) = some (x, (0, 0)) := fun x => sGive_eq rfl
  show S_rfB a k d [.op (.ref a)] (0, 0) = _
  unfold S_rfB
  rw [ev_sSeq, ev_sIfS, ev_sB, h1]
  simp only [Option.bind_some, if_true, ev_sRet, ev_sTup, ev_sCons, h2, ev_sNil]
  rfl
theorem ok_rfB_Full {s : Str} {dA : Addr} {p : Int} (T : TX K mg) (U : TC K mg) (Z : Rz K mg U D false b1 true b3 b4 b5 b6 b7 b8 b9) (hev : KindIs false b1 true b3 b4 b5 b6 b7 b8 b9 s) (xf : XfC K D) (no : PySem.W.findIn K (.ref D) "place" = some none) :
    FnX P w K mg base 3 D (some dA) T.f_l_refusal T.d_l_refusal "e" (spX K (some dA) (fun B => B dA = some (.xd [("place", .int p)])) (.tuple [.str s, .int p])) := by
  refine okX (k := 2) (n := 0) T.F_l_refusal sc_l_refusal rfl fun cdv A l s H q J hot od hr dj pj => ?_
  have hq : q ∈ (cxE P w K mg base N_l_refusal "_law_refusal" (defScope s_l_refusal) T.f_l_refusal cdv A l s H q).pn := List.mem_singleton.mpr rfl
  refine ⟨_, S_rfB q.1 _ (.int p), pss_cons (ps_if (pt_val (pe_callB (call_isXT (q := q) Z.e hq od) (by rfl) T.b_isinstance (by decide +kernel) (pa_cons (pv 0) (pa_cons (pe_tup (pa_cons (pe_glob (v := .ref U.C_Empty) (by rfl) U.g_Empty rfl) (pa_cons (pe_glob (v := .ref U.C_Full) (by rfl) U.g_Full rfl) pa_nil))) pa_nil)))) (pss_one (ps_ret (pe_tup (pa_cons (pe_callX (q := q) (i := 0) (ok_l_kind_of T U Z hev) hr hq hot od (by rfl) T.g_l_kind_of T.F_l_kind_of.kp (b_l_kind_of T) (pv 0)) (pa_cons (pe_xfX xf no hq od (pv 0)) pa_nil))))) pss_nil) (pss_one (ps_ret (pe_tup (pa_cons (pe_callX (q := q) (i := 0) (ok_l_kind_of T U Z hev) hr hq hot od (by rfl) T.g_l_kind_of T.F_l_kind_of.kp (b_l_kind_of T) (pv 0)) pa_nil)))), ?_, rfB_ev q.1 _ _⟩
  exact imp_seqJ (imp_ifJ (imp_testJ (imp_isXTJ dj (.own _) (.own _) (kitAny_cons (kit_own U.i_Empty U.t_Empty Z.s0 Z.me) (fun _ => (kitAny_cons (kit_own U.i_Full U.t_Full Z.s2 Z.me) (fun z => nomatch z) (fun _ => rfl))) (fun z => nomatch z)))) (imp_retJ (imp_tupJ (imp_consJ (imp_giveX dj fun _ _ => trivial) (imp_consJ (imp_xfJ (v := .int p) pj fun _ _ => .int p) imp_nilJ)))) (jS imp_next)) (imp_retJ (imp_tupJ (imp_consJ (imp_giveX dj fun _ _ => trivial) imp_nilJ)))
theorem ok_rfB_Empty {s : Str} {dA : Addr} {p : Int} (T : TX K mg) (U : TC K mg) (Z : Rz K mg U D true b1 false b3 b4 b5 b6 b7 b8 b9) (hev : KindIs true b1 false b3 b4 b5 b6 b7 b8 b9 s) (xf : XfC K D) (no : PySem.W.findIn K (.ref D) "place" = some none) :
    FnX P w K mg base 3 D (some dA) T.f_l_refusal T.d_l_refusal "e" (spX K (some dA) (fun B => B dA = some (.xd [("place", .int p)])) (.tuple [.str s, .int p])) := by
  refine okX (k := 2) (n := 0) T.F_l_refusal sc_l_refusal rfl fun cdv A l s H q J hot od hr dj pj => ?_
  have hq : q ∈ (cxE P w K mg base N_l_refusal "_law_refusal" (defScope s_l_refusal) T.f_l_refusal cdv A l s H q).pn := List.mem_singleton.mpr rfl
  refine ⟨_, S_rfB q.1 _ (.int p), pss_cons (ps_if (pt_val (pe_callB (call_isXT (q := q) Z.e hq od) (by rfl) T.b_isinstance (by decide +kernel) (pa_cons (pv 0) (pa_cons (pe_tup (pa_cons (pe_glob (v := .ref U.C_Empty) (by rfl) U.g_Empty rfl) (pa_cons (pe_glob (v := .ref U.C_Full) (by rfl) U.g_Full rfl) pa_nil))) pa_nil)))) (pss_one (ps_ret (pe_tup (pa_cons (pe_callX (q := q) (i := 0) (ok_l_kind_of T U Z hev) hr hq hot od (by rfl) T.g_l_kind_of T.F_l_kind_of.kp (b_l_kind_of T) (pv 0)) (pa_cons (pe_xfX xf no hq od (pv 0)) pa_nil))))) pss_nil) (pss_one (ps_ret (pe_tup (pa_cons (pe_callX (q := q) (i := 0) (ok_l_kind_of T U Z hev) hr hq hot od (by rfl) T.g_l_kind_of T.F_l_kind_of.kp (b_l_kind_of T) (pv 0)) pa_nil)))), ?_, rfB_ev q.1 _ _⟩
  exact imp_seqJ (imp_ifJ (imp_testJ (imp_isXTJ dj (.own _) (.own _) (kitAny_cons (kit_own U.i_Empty U.t_Empty Z.s0 Z.me) (fun z => nomatch z) (fun _ => rfl)))) (imp_retJ (imp_tupJ (imp_consJ (imp_giveX dj fun _ _ => trivial) (imp_consJ (imp_xfJ (v := .int p) pj fun _ _ => .int p) imp_nilJ)))) (jS imp_next)) (imp_retJ (imp_tupJ (imp_consJ (imp_giveX dj fun _ _ => trivial) imp_nilJ)))
end
end X
namespace X
open PySem PySem.Spec L2 DL EX L2H

theorem kind_NoCap : KindIs false true false true false false false false false false "FormError NoCap +" := fun a => by
  have h1 : ∀ b, sIs 0 (.ref a) b [.op (.ref a), .un, .un, .un, .un] (0, 0) = some (.bool b, (0, 0)) := fun b => sIs_eq rfl
  have h2 : ∀ b x, sIs 0 (.ref a) b [.op (.ref a), .im x, .un, .un, .un] (0, 0) = some (.bool b, (0, 0)) := fun b x => sIs_eq rfl
  refine ⟨[.op (.ref a), .im (.list [.bool false, .bool true, .bool false, .bool true, .bool false, .bool false, .bool false, .bool false, .bool false, .bool false, .bool true]), .im (.list [.str "Empty", .str "FormError", .str "Full", .str "NoCap", .str "NoFrame", .str "NoPlace", .str "NoRow", .str "NothingLeft", .str "NowError", .str "Short"]), .un, .un], (0, 0), ?_⟩
  have e0 : (Sl.op (.ref a) :: List.replicate 4 Sl.un) = [.op (.ref a), .un, .un, .un, .un] := rfl
  have sq : ∀ {f g : SS} {ρ ρ1 : Rho} {r}, f ρ (0, 0) = some (.nx, ρ1, (0, 0)) → g ρ1 (0, 0) = r → sSeq f g ρ (0, 0) = r := fun e1 e2 => by rw [ev_sSeq, e1]; exact e2
  rw [e0]
  unfold S_l_kind_of
  refine sq (ρ1 := [.op (.ref a), .im (.list [.bool false, .bool true, .bool false, .bool true]), .un, .un, .un]) ?_ (sq (ρ1 := [.op (.ref a), .im (.list [.bool false, .bool true, .bool false, .bool true, .bool false, .bool false, .bool false, .bool false]), .un, .un, .un]) ?_ (sq (ρ1 := [.op (.ref a), .im (.list [.bool false, .bool true, .bool false, .bool true, .bool false, .bool false, .bool false, .bool false, .bool false, .bool false, .bool true]), .un, .un, .un]) ?_ ?_))
  · simp only [ev_sAsg, ev_sLst, ev_sCons, ev_sNil, h1, Option.bind_some]; rfl
  · simp only [ev_sAsg, ev_sLst, ev_sCons, ev_sNil, ev_sOp, ev_sV, h2, Option.bind_some, List.getElem?_cons_succ, List.getElem?_cons_zero]; rfl
  · simp only [ev_sAsg, ev_sLst, ev_sCons, ev_sNil, ev_sOp, ev_sV, h2, Option.bind_some, List.getElem?_cons_succ, List.getElem?_cons_zero]; rfl
  · rfl
theorem kind_NoRow : KindIs false true false false false false true false false false "FormError NoRow +" := fun a => by
  have h1 : ∀ b, sIs 0 (.ref a) b [.op (.ref a), .un, .un, .un, .un] (0, 0) = some (.bool b, (0, 0)) := fun b => sIs_eq rfl
  have h2 : ∀ b x, sIs 0 (.ref a) b [.op (.ref a), .im x, .un, .un, .un] (0, 0) = some (.bool b, (0, 0)) := fun b x => sIs_eq rfl
  refine ⟨[.op (.ref a), .im (.list [.bool false, .bool true, .bool false, .bool false, .bool false, .bool false, .bool true, .bool false, .bool false, .bool false, .bool true]), .im (.list [.str "Empty", .str "FormError", .str "Full", .str "NoCap", .str "NoFrame", .str "NoPlace", .str "NoRow", .str "NothingLeft", .str "NowError", .str "Short"]), .un, .un], (0, 0), ?_⟩
  have e0 : (Sl.op (.ref a) :: List.replicate 4 Sl.un) = [.op (.ref a), .un, .un, .un, .un] := rfl
  have sq : ∀ {f g : SS} {ρ ρ1 : Rho} {r}, f ρ (0, 0) = some (.nx, ρ1, (0, 0)) → g ρ1 (0, 0) = r → sSeq f g ρ (0, 0) = r := fun e1 e2 => by rw [ev_sSeq, e1]; exact e2
  rw [e0]
  unfold S_l_kind_of
  refine sq (ρ1 := [.op (.ref a), .im (.list [.bool false, .bool true, .bool false, .bool false]), .un, .un, .un]) ?_ (sq (ρ1 := [.op (.ref a), .im (.list [.bool false, .bool true, .bool false, .bool false, .bool false, .bool false, .bool true, .bool false]), .un, .un, .un]) ?_ (sq (ρ1 := [.op (.ref a), .im (.list [.bool false, .bool true, .bool false, .bool false, .bool false, .bool false, .bool true, .bool false, .bool false, .bool false, .bool true]), .un, .un, .un]) ?_ ?_))
  · simp only [ev_sAsg, ev_sLst, ev_sCons, ev_sNil, h1, Option.bind_some]; rfl
  · simp only [ev_sAsg, ev_sLst, ev_sCons, ev_sNil, ev_sOp, ev_sV, h2, Option.bind_some, List.getElem?_cons_succ, List.getElem?_cons_zero]; rfl
  · simp only [ev_sAsg, ev_sLst, ev_sCons, ev_sNil, ev_sOp, ev_sV, h2, Option.bind_some, List.getElem?_cons_succ, List.getElem?_cons_zero]; rfl
  · rfl
theorem kind_NoPlace : KindIs false true false false false true false false false false "FormError NoPlace +" := fun a => by
  have h1 : ∀ b, sIs 0 (.ref a) b [.op (.ref a), .un, .un, .un, .un] (0, 0) = some (.bool b, (0, 0)) := fun b => sIs_eq rfl
  have h2 : ∀ b x, sIs 0 (.ref a) b [.op (.ref a), .im x, .un, .un, .un] (0, 0) = some (.bool b, (0, 0)) := fun b x => sIs_eq rfl
  refine ⟨[.op (.ref a), .im (.list [.bool false, .bool true, .bool false, .bool false, .bool false, .bool true, .bool false, .bool false, .bool false, .bool false, .bool true]), .im (.list [.str "Empty", .str "FormError", .str "Full", .str "NoCap", .str "NoFrame", .str "NoPlace", .str "NoRow", .str "NothingLeft", .str "NowError", .str "Short"]), .un, .un], (0, 0), ?_⟩
  have e0 : (Sl.op (.ref a) :: List.replicate 4 Sl.un) = [.op (.ref a), .un, .un, .un, .un] := rfl
  have sq : ∀ {f g : SS} {ρ ρ1 : Rho} {r}, f ρ (0, 0) = some (.nx, ρ1, (0, 0)) → g ρ1 (0, 0) = r → sSeq f g ρ (0, 0) = r := fun e1 e2 => by rw [ev_sSeq, e1]; exact e2
  rw [e0]
  unfold S_l_kind_of
  refine sq (ρ1 := [.op (.ref a), .im (.list [.bool false, .bool true, .bool false, .bool false]), .un, .un, .un]) ?_ (sq (ρ1 := [.op (.ref a), .im (.list [.bool false, .bool true, .bool false, .bool false, .bool false, .bool true, .bool false, .bool false]), .un, .un, .un]) ?_ (sq (ρ1 := [.op (.ref a), .im (.list [.bool false, .bool true, .bool false, .bool false, .bool false, .bool true, .bool false, .bool false, .bool false, .bool false, .bool true]), .un, .un, .un]) ?_ ?_))
  · simp only [ev_sAsg, ev_sLst, ev_sCons, ev_sNil, h1, Option.bind_some]; rfl
  · simp only [ev_sAsg, ev_sLst, ev_sCons, ev_sNil, ev_sOp, ev_sV, h2, Option.bind_some, List.getElem?_cons_succ, List.getElem?_cons_zero]; rfl
  · simp only [ev_sAsg, ev_sLst, ev_sCons, ev_sNil, ev_sOp, ev_sV, h2, Option.bind_some, List.getElem?_cons_succ, List.getElem?_cons_zero]; rfl
  · rfl
theorem kind_NoFrame : KindIs false true false false true false false false false false "FormError NoFrame +" := fun a => by
  have h1 : ∀ b, sIs 0 (.ref a) b [.op (.ref a), .un, .un, .un, .un] (0, 0) = some (.bool b, (0, 0)) := fun b => sIs_eq rfl
  have h2 : ∀ b x, sIs 0 (.ref a) b [.op (.ref a), .im x, .un, .un, .un] (0, 0) = some (.bool b, (0, 0)) := fun b x => sIs_eq rfl
  refine ⟨[.op (.ref a), .im (.list [.bool false, .bool true, .bool false, .bool false, .bool true, .bool false, .bool false, .bool false, .bool false, .bool false, .bool true]), .im (.list [.str "Empty", .str "FormError", .str "Full", .str "NoCap", .str "NoFrame", .str "NoPlace", .str "NoRow", .str "NothingLeft", .str "NowError", .str "Short"]), .un, .un], (0, 0), ?_⟩
  have e0 : (Sl.op (.ref a) :: List.replicate 4 Sl.un) = [.op (.ref a), .un, .un, .un, .un] := rfl
  have sq : ∀ {f g : SS} {ρ ρ1 : Rho} {r}, f ρ (0, 0) = some (.nx, ρ1, (0, 0)) → g ρ1 (0, 0) = r → sSeq f g ρ (0, 0) = r := fun e1 e2 => by rw [ev_sSeq, e1]; exact e2
  rw [e0]
  unfold S_l_kind_of
  refine sq (ρ1 := [.op (.ref a), .im (.list [.bool false, .bool true, .bool false, .bool false]), .un, .un, .un]) ?_ (sq (ρ1 := [.op (.ref a), .im (.list [.bool false, .bool true, .bool false, .bool false, .bool true, .bool false, .bool false, .bool false]), .un, .un, .un]) ?_ (sq (ρ1 := [.op (.ref a), .im (.list [.bool false, .bool true, .bool false, .bool false, .bool true, .bool false, .bool false, .bool false, .bool false, .bool false, .bool true]), .un, .un, .un]) ?_ ?_))
  · simp only [ev_sAsg, ev_sLst, ev_sCons, ev_sNil, h1, Option.bind_some]; rfl
  · simp only [ev_sAsg, ev_sLst, ev_sCons, ev_sNil, ev_sOp, ev_sV, h2, Option.bind_some, List.getElem?_cons_succ, List.getElem?_cons_zero]; rfl
  · simp only [ev_sAsg, ev_sLst, ev_sCons, ev_sNil, ev_sOp, ev_sV, h2, Option.bind_some, List.getElem?_cons_succ, List.getElem?_cons_zero]; rfl
  · rfl
theorem kind_NothingLeft : KindIs false false false false false false false true true false "NothingLeft NowError +" := fun a => by
  have h1 : ∀ b, sIs 0 (.ref a) b [.op (.ref a), .un, .un, .un, .un] (0, 0) = some (.bool b, (0, 0)) := fun b => sIs_eq rfl
  have h2 : ∀ b x, sIs 0 (.ref a) b [.op (.ref a), .im x, .un, .un, .un] (0, 0) = some (.bool b, (0, 0)) := fun b x => sIs_eq rfl
  refine ⟨[.op (.ref a), .im (.list [.bool false, .bool false, .bool false, .bool false, .bool false, .bool false, .bool false, .bool true, .bool true, .bool false, .bool true]), .im (.list [.str "Empty", .str "FormError", .str "Full", .str "NoCap", .str "NoFrame", .str "NoPlace", .str "NoRow", .str "NothingLeft", .str "NowError", .str "Short"]), .un, .un], (0, 0), ?_⟩
  have e0 : (Sl.op (.ref a) :: List.replicate 4 Sl.un) = [.op (.ref a), .un, .un, .un, .un] := rfl
  have sq : ∀ {f g : SS} {ρ ρ1 : Rho} {r}, f ρ (0, 0) = some (.nx, ρ1, (0, 0)) → g ρ1 (0, 0) = r → sSeq f g ρ (0, 0) = r := fun e1 e2 => by rw [ev_sSeq, e1]; exact e2
  rw [e0]
  unfold S_l_kind_of
  refine sq (ρ1 := [.op (.ref a), .im (.list [.bool false, .bool false, .bool false, .bool false]), .un, .un, .un]) ?_ (sq (ρ1 := [.op (.ref a), .im (.list [.bool false, .bool false, .bool false, .bool false, .bool false, .bool false, .bool false, .bool true]), .un, .un, .un]) ?_ (sq (ρ1 := [.op (.ref a), .im (.list [.bool false, .bool false, .bool false, .bool false, .bool false, .bool false, .bool false, .bool true, .bool true, .bool false, .bool true]), .un, .un, .un]) ?_ ?_))
  · simp only [ev_sAsg, ev_sLst, ev_sCons, ev_sNil, h1, Option.bind_some]; rfl
  · simp only [ev_sAsg, ev_sLst, ev_sCons, ev_sNil, ev_sOp, ev_sV, h2, Option.bind_some, List.getElem?_cons_succ, List.getElem?_cons_zero]; rfl
  · simp only [ev_sAsg, ev_sLst, ev_sCons, ev_sNil, ev_sOp, ev_sV, h2, Option.bind_some, List.getElem?_cons_succ, List.getElem?_cons_zero]; rfl
  · rfl
theorem kind_Full : KindIs false false true false false false false false true false "Full NowError +" := fun a => by
  have h1 : ∀ b, sIs 0 (.ref a) b [.op (.ref a), .un, .un, .un, .un] (0, 0) = some (.bool b, (0, 0)) := fun b => sIs_eq rfl
  have h2 : ∀ b x, sIs 0 (.ref a) b [.op (.ref a), .im x, .un, .un, .un] (0, 0) = some (.bool b, (0, 0)) := fun b x => sIs_eq rfl
  refine ⟨[.op (.ref a), .im (.list [.bool false, .bool false, .bool true, .bool false, .bool false, .bool false, .bool false, .bool false, .bool true, .bool false, .bool true]), .im (.list [.str "Empty", .str "FormError", .str "Full", .str "NoCap", .str "NoFrame", .str "NoPlace", .str "NoRow", .str "NothingLeft", .str "NowError", .str "Short"]), .un, .un], (0, 0), ?_⟩
  have e0 : (Sl.op (.ref a) :: List.replicate 4 Sl.un) = [.op (.ref a), .un, .un, .un, .un] := rfl
  have sq : ∀ {f g : SS} {ρ ρ1 : Rho} {r}, f ρ (0, 0) = some (.nx, ρ1, (0, 0)) → g ρ1 (0, 0) = r → sSeq f g ρ (0, 0) = r := fun e1 e2 => by rw [ev_sSeq, e1]; exact e2
  rw [e0]
  unfold S_l_kind_of
  refine sq (ρ1 := [.op (.ref a), .im (.list [.bool false, .bool false, .bool true, .bool false]), .un, .un, .un]) ?_ (sq (ρ1 := [.op (.ref a), .im (.list [.bool false, .bool false, .bool true, .bool false, .bool false, .bool false, .bool false, .bool false]), .un, .un, .un]) ?_ (sq (ρ1 := [.op (.ref a), .im (.list [.bool false, .bool false, .bool true, .bool false, .bool false, .bool false, .bool false, .bool false, .bool true, .bool false, .bool true]), .un, .un, .un]) ?_ ?_))
  · simp only [ev_sAsg, ev_sLst, ev_sCons, ev_sNil, h1, Option.bind_some]; rfl
  · simp only [ev_sAsg, ev_sLst, ev_sCons, ev_sNil, ev_sOp, ev_sV, h2, Option.bind_some, List.getElem?_cons_succ, List.getElem?_cons_zero]; rfl
  · simp only [ev_sAsg, ev_sLst, ev_sCons, ev_sNil, ev_sOp, ev_sV, h2, Option.bind_some, List.getElem?_cons_succ, List.getElem?_cons_zero]; rfl
  · rfl
theorem kind_Empty : KindIs true false false false false false false false true false "Empty NowError +" := fun a => by
  have h1 : ∀ b, sIs 0 (.ref a) b [.op (.ref a), .un, .un, .un, .un] (0, 0) = some (.bool b, (0, 0)) := fun b => sIs_eq rfl
  have h2 : ∀ b x, sIs 0 (.ref a) b [.op (.ref a), .im x, .un, .un, .un] (0, 0) = some (.bool b, (0, 0)) := fun b x => sIs_eq rfl
  refine ⟨[.op (.ref a), .im (.list [.bool true, .bool false, .bool false, .bool false, .bool false, .bool false, .bool false, .bool false, .bool true, .bool false, .bool true]), .im (.list [.str "Empty", .str "FormError", .str "Full", .str "NoCap", .str "NoFrame", .str "NoPlace", .str "NoRow", .str "NothingLeft", .str "NowError", .str "Short"]), .un, .un], (0, 0), ?_⟩
  have e0 : (Sl.op (.ref a) :: List.replicate 4 Sl.un) = [.op (.ref a), .un, .un, .un, .un] := rfl
  have sq : ∀ {f g : SS} {ρ ρ1 : Rho} {r}, f ρ (0, 0) = some (.nx, ρ1, (0, 0)) → g ρ1 (0, 0) = r → sSeq f g ρ (0, 0) = r := fun e1 e2 => by rw [ev_sSeq, e1]; exact e2
  rw [e0]
  unfold S_l_kind_of
  refine sq (ρ1 := [.op (.ref a), .im (.list [.bool true, .bool false, .bool false, .bool false]), .un, .un, .un]) ?_ (sq (ρ1 := [.op (.ref a), .im (.list [.bool true, .bool false, .bool false, .bool false, .bool false, .bool false, .bool false, .bool false]), .un, .un, .un]) ?_ (sq (ρ1 := [.op (.ref a), .im (.list [.bool true, .bool false, .bool false, .bool false, .bool false, .bool false, .bool false, .bool false, .bool true, .bool false, .bool true]), .un, .un, .un]) ?_ ?_))
  · simp only [ev_sAsg, ev_sLst, ev_sCons, ev_sNil, h1, Option.bind_some]; rfl
  · simp only [ev_sAsg, ev_sLst, ev_sCons, ev_sNil, ev_sOp, ev_sV, h2, Option.bind_some, List.getElem?_cons_succ, List.getElem?_cons_zero]; rfl
  · simp only [ev_sAsg, ev_sLst, ev_sCons, ev_sNil, ev_sOp, ev_sV, h2, Option.bind_some, List.getElem?_cons_succ, List.getElem?_cons_zero]; rfl
  · rfl
end X
namespace X
open PySem PySem.Spec PyProof.Rows L2 DL EX L2H LamX
theorem dok_none {B : Hp} : DOk none B := fun d e => by cases e
/-- the classes that are raised -/
structure TZ (K : PySem.W.Frag) (mg : Str → Option Value) (U : TC K mg) : Prop where
  zCap : Rz K mg U U.C_NoCap false true false true false false false false false false
  zRow : Rz K mg U U.C_NoRow false true false false false false true false false false
  zPlace : Rz K mg U U.C_NoPlace false true false false false true false false false false
  zFrame : Rz K mg U U.C_NoFrame false true false false true false false false false false
  zLeft : Rz K mg U U.C_NothingLeft false false false false false false false true true false
  zFull : Rz K mg U U.C_Full false false true false false false false false true false
  zEmpty : Rz K mg U U.C_Empty true false false false false false false false true false
  xfFull : XfC K U.C_Full
  noFull : PySem.W.findIn K (.ref U.C_Full) "place" = some none
  xfEmpty : XfC K U.C_Empty
  noEmpty : PySem.W.findIn K (.ref U.C_Empty) "place" = some none
/-- told of a class made of a text -/
def RfA (K : PySem.W.Frag) (D : Addr) (s : Str) : Value → Option Addr → Hp → VK → Prop := fun cls d H Q => cls = .ref D ∧ d = none ∧ ∃ B, Same B H ∧ ∀ v B' H', Grow B H B' H' → DL.Dp K B' v (.tuple [.str s]) → Q v H'
/-- told of a class with a place -/
def RfB (K : PySem.W.Frag) (D : Addr) (s : Str) : Value → Option Addr → Hp → VK → Prop := fun cls d H Q => cls = .ref D ∧ ∃ (dA : Addr) (p : Int) (B : Hp), d = some dA ∧ Same B H ∧ B dA = some (.xd [("place", .int p)]) ∧ ∀ v B' H', Grow B H B' H' → DL.Dp K B' v (.tuple [.str s, .int p]) → Q v H'
/-- told of what is raised -/
def Rf (K : PySem.W.Frag) (mg : Str → Option Value) (U : TC K mg) : Value → Option Addr → Hp → VK → Prop := fun cls d H Q =>
  RfA K U.C_NoCap "FormError NoCap +" cls d H Q ∨ RfA K U.C_NoRow "FormError NoRow +" cls d H Q ∨ RfA K U.C_NoPlace "FormError NoPlace +" cls d H Q ∨ RfA K U.C_NoFrame "FormError NoFrame +" cls d H Q ∨ RfA K U.C_NothingLeft "NothingLeft NowError +" cls d H Q ∨
    RfB K U.C_Full "Full NowError +" cls d H Q ∨ RfB K U.C_Empty "Empty NowError +" cls d H Q
section
variable {K : PySem.W.Frag} {mg : Str → Option Value}
theorem rfA_mono {D : Addr} {s : Str} {cls : Value} {d : Option Addr} {H : Hp} {Q Q' : VK} (m : ∀ v H', Q v H' → Q' v H') : RfA K D s cls d H Q → RfA K D s cls d H Q' := fun ⟨e1, e2, B, sB, h⟩ => ⟨e1, e2, B, sB, fun v B' H' g dv => m _ _ (h v B' H' g dv)⟩
theorem rfB_mono {D : Addr} {s : Str} {cls : Value} {d : Option Addr} {H : Hp} {Q Q' : VK} (m : ∀ v H', Q v H' → Q' v H') : RfB K D s cls d H Q → RfB K D s cls d H Q' := fun ⟨e1, dA, p, B, e2, sB, hd, h⟩ => ⟨e1, dA, p, B, e2, sB, hd, fun v B' H' g dv => m _ _ (h v B' H' g dv)⟩
theorem Rf.mono {U : TC K mg} {cls : Value} {d : Option Addr} {H : Hp} {Q Q' : VK} (m : ∀ v H', Q v H' → Q' v H') (h : Rf K mg U cls d H Q) : Rf K mg U cls d H Q' := by
  rcases h with h | h | h | h | h | h | h
  · exact .inl (rfA_mono m h)
  · exact .inr (.inl (rfA_mono m h))
  · exact .inr (.inr (.inl (rfA_mono m h)))
  · exact .inr (.inr (.inr (.inl (rfA_mono m h))))
  · exact .inr (.inr (.inr (.inr (.inl (rfA_mono m h)))))
  · exact .inr (.inr (.inr (.inr (.inr (.inl (rfB_mono m h))))))
  · exact .inr (.inr (.inr (.inr (.inr (.inr (rfB_mono m h))))))
theorem Rf.ok {P : Program} {w : World} {base : Heap} (T : TX K mg) {U : TC K mg} (Z : TZ K mg U) {cls : Value} {d : Option Addr} {H : Hp} {Q : VK} (h : Rf K mg U cls d H Q) :
    ∃ (D : Addr) (S : Hp → VK → Prop), cls = .ref D ∧ FnX P w K mg base 3 D d T.f_l_refusal T.d_l_refusal "e" S ∧ S H Q ∧ PySem.W.exmOne K (.ref D) (.ref U.F) = some true := by
  rcases h with ⟨rfl, rfl, B, sB, h⟩ | ⟨rfl, rfl, B, sB, h⟩ | ⟨rfl, rfl, B, sB, h⟩ | ⟨rfl, rfl, B, sB, h⟩ | ⟨rfl, rfl, B, sB, h⟩ | ⟨rfl, dA, p, B, rfl, sB, hd, h⟩ | ⟨rfl, dA, p, B, rfl, sB, hd, h⟩
  · exact ⟨_, _, rfl, ok_rfA T U Z.zCap kind_NoCap, ⟨B, sB, dok_none, trivial, h⟩, Z.zCap.fx⟩
  · exact ⟨_, _, rfl, ok_rfA T U Z.zRow kind_NoRow, ⟨B, sB, dok_none, trivial, h⟩, Z.zRow.fx⟩
  · exact ⟨_, _, rfl, ok_rfA T U Z.zPlace kind_NoPlace, ⟨B, sB, dok_none, trivial, h⟩, Z.zPlace.fx⟩
  · exact ⟨_, _, rfl, ok_rfA T U Z.zFrame kind_NoFrame, ⟨B, sB, dok_none, trivial, h⟩, Z.zFrame.fx⟩
  · exact ⟨_, _, rfl, ok_rfA T U Z.zLeft kind_NothingLeft, ⟨B, sB, dok_none, trivial, h⟩, Z.zLeft.fx⟩
  · exact ⟨_, _, rfl, ok_rfB_Full T U Z.zFull kind_Full Z.xfFull Z.noFull, ⟨B, sB, fun d e => by cases e; exact ⟨_, hd⟩, hd, h⟩, Z.zFull.fx⟩
  · exact ⟨_, _, rfl, ok_rfB_Empty T U Z.zEmpty kind_Empty Z.xfEmpty Z.noEmpty, ⟨B, sB, fun d e => by cases e; exact ⟨_, hd⟩, hd, h⟩, Z.zEmpty.fx⟩
end
/-- what _law_told makes of the lambda's reading -/
def TTg (K : PySem.W.Frag) (mg : Str → Option Value) (U : TC K mg) : (XK → Hp → VK → Prop) → Hp → VK → Prop := fun tl H Q => ∀ (Ech : XK) (Nd : VK), (∀ cls d H', Rf K mg U cls d H' Q → Ech cls d H') →
  (∀ v H', (∀ p, H' p = none → Q (.ref p) (upd H' p (.tup [.str "told", v]))) → Nd v H') → tl Ech H Nd
theorem takes0M {X : Cx} : L2N.Takes X (fun _ _ _ _ => False) := fun _ _ x => by
  obtain ⟨_, _, _, _, _, _, _, _, _, _, _, _, _, _, _, _, z⟩ := x
  exact z.elim
theorem told_givesM {X : Cx} {k : Nat} (hk : 3 ≤ k + 1) (T : TX X.K X.mg) (U : TC X.K X.mg) (Z : TZ X.K X.mg U) {g : Addr} {cdg : Value} : GivesM k X N_l_told "_law_told" (defScope s_l_told) g cdg (defBody s_l_told) "deed" (TTg X.K X.mg U) := by
  intro f c' s H Q tl hr act hco h
  refine ⟨_, pss_cons (ps_set (i := 1) sc_l_told.nd rfl (Or.inl rfl) pe_non) (pss_cons (L2N.ps_try_as (i := 2) (c := .ref U.F) (Wout := fun _ _ _ _ => False)
    (tb := fun W D σ H => ∃ Ech : XK, σ[0]? = some (some (.ref f)) ∧ H c' = some (CodeO c' (qL X)) ∧ (∀ cls d H', Ech cls d H' → W cls d σ H') ∧ tl Ech H (fun v H1 => 2 ≤ sizeLine ∧ ∀ p, H1 p = none → D.nx (σ.set 1 (some (.ref p))) (upd H1 p (.tup [.str "told", v]))))
    (ts := fun a cls d D σ H => σ[2]? = some (some (.ref a)) ∧ Rf X.K X.mg U cls d H (fun v H1 => D.nx (σ.set 1 (some v)) H1))
    rfl rfl sc_l_told.nd rfl rfl ⟨rfl, by decide, .inl U.fg⟩ takes0M (fun W pn xe tk _ => ?_) (fun a oe cls d pn hz hf => ?_)) (pss_one (ps_ret (pv 1)))), ?_⟩
  · refine ⟨fun pins s' σ H' D I ⟨Ech, h1, h2, h3, h4⟩ => ?_⟩
    exact (pss_one (ps_set (i := 1) sc_l_told.nd rfl (Or.inl rfl) (pe_tup (pa_cons pe_str (pa_cons (act W pn xe Ech _ _ tk) pa_nil))))).run pins s' σ H' D I ⟨h1, h2, h3, h4⟩
  · refine ⟨fun pins s' σ H' D I ⟨e2, h⟩ => ?_⟩
    obtain ⟨D0, S, rfl, F, hS, _⟩ := Rf.ok (P := X.prog) (w := X.w) (base := X.base) T Z h
    obtain ⟨vs, hv⟩ := hf
    have hr3 := roomH_of (hr.mono hk)
    exact (pss_one (ps_set (i := 1) sc_l_told.nd rfl (Or.inl rfl) (pe_callX (X := (cxOf CX0 X.prog X.w X.K X.mg X.base N_l_told "_law_told" (defScope s_l_told) g cdg X.A X.stack s H E0).nox.suite a ((a, oe) :: pn)) (q := (a, oe)) (i := 2) F ⟨hr3.dp, hr3.un⟩ List.mem_cons_self ⟨rfl, vs, hv, hz.2.2 vs hv⟩ ⟨hz, vs, hv⟩ (by rfl) T.g_l_refusal T.F_l_refusal.kp (b_l_refusal T) (pv 2)))).run pins s' σ H' D I ⟨e2, hS⟩
  · refine ⟨fun cls dd H' => Rf X.K X.mg U cls dd H' Q, rfl, hco, fun cls d H' z => ?_, h _ _ (fun _ _ _ z => z) fun v H1 z => ⟨by decide, fun p np => ⟨.ref p, rfl, z p np⟩⟩⟩
    obtain ⟨D0, S, e, _, _, hx⟩ := Rf.ok (P := X.prog) (w := X.w) (base := X.base) T Z z
    exact ⟨true, by rw [e]; exact hx, fun _ a na => ⟨rfl, z.mono fun v H1 q => ⟨v, rfl, q⟩⟩, fun z => nomatch z⟩
end X
/-! DM: rows, frames, spans and tables, in plain numbers. -/
namespace DM
open PySem PySem.Spec L2 DL
/-! ### equality of data without bools -/
mutual
/-- no bool, no dict; texts that can be laid -/
def nob : D → Bool
  | .none | .int _ => true
  | .bool _ => false
  | .str x => PyData.canLay0 (.str x)
  | .list xs => nobA xs
  | .tuple xs => nobA xs
  | .dict _ => false
def nobA : List D → Bool
  | [] => true
  | x :: xs => nob x && nobA xs
end
mutual
theorem nob_lay : ∀ d : D, nob d = true → d.canLay0 = true
  | .none, _ => by simp [PyData.canLay0]
  | .int _, _ => by simp [PyData.canLay0]
  | .bool _, h => by simp [nob] at h
  | .str x, h => by rw [nob] at h; exact h
  | .list xs, h => by rw [nob] at h; rw [PyData.canLay0]; exact nobA_lay xs h
  | .tuple xs, h => by rw [nob] at h; rw [PyData.canLay0]; exact nobA_lay xs h
  | .dict _, h => by simp [nob] at h
theorem nobA_lay : ∀ ds : List D, nobA ds = true → PyData.canLayAll0 ds = true
  | [], _ => by simp [PyData.canLayAll0]
  | x :: xs, h => by
    rw [nobA, Bool.and_eq_true] at h
    rw [PyData.canLayAll0, nob_lay x h.1, nobA_lay xs h.2]
    rfl
end
mutual
theorem eqv_eq : ∀ d e : D, nob d = true → nob e = true → (PyData.eqv d e = true ↔ d = e)
  | .none, e, _, he => by cases e <;> simp [PyData.eqv, nob] at he ⊢
  | .int _, e, _, he => by cases e <;> simp [PyData.eqv, nob] at he ⊢
  | .bool _, e, h, _ => by simp [nob] at h
  | .str x, e, _, he => by cases e <;> simp [PyData.eqv, nob] at he ⊢
  | .list xs, e, h, he => by
    cases e with
    | list ys =>
      rw [nob] at h he
      rw [PyData.eqv, eqvA_eq xs ys h he]
      exact ⟨fun z => by rw [z], fun z => by cases z; rfl⟩
    | _ => simp [PyData.eqv, nob] at he ⊢
  | .tuple xs, e, h, he => by
    cases e with
    | tuple ys =>
      rw [nob] at h he
      rw [PyData.eqv, eqvA_eq xs ys h he]
      exact ⟨fun z => by rw [z], fun z => by cases z; rfl⟩
    | _ => simp [PyData.eqv, nob] at he ⊢
  | .dict _, e, h, _ => by simp [nob] at h
theorem eqvA_eq : ∀ xs ys : List D, nobA xs = true → nobA ys = true → (PyData.eqvAll xs ys = true ↔ xs = ys)
  | [], [], _, _ => by simp [PyData.eqvAll]
  | [], _ :: _, _, _ => by simp [PyData.eqvAll]
  | _ :: _, [], _, _ => by simp [PyData.eqvAll]
  | x :: xs, y :: ys, h, he => by
    rw [nobA, Bool.and_eq_true] at h he
    rw [PyData.eqvAll, Bool.and_eq_true, eqv_eq x y h.1 he.1, eqvA_eq xs ys h.2 he.2, List.cons.injEq]
end
theorem eqv_dec {d e : D} (h : nob d = true) (he : nob e = true) [Decidable (d = e)] : PyData.eqv d e = decide (d = e) := by
  by_cases z : d = e
  · rw [decide_eq_true z, (eqv_eq d e h he).mpr z]
  · rw [decide_eq_false z]
    cases q : PyData.eqv d e with
    | false => rfl
    | true => exact absurd ((eqv_eq d e h he).mp q) z
theorem nobA_iff : ∀ {ds : List D}, nobA ds = true ↔ ∀ d ∈ ds, nob d = true
  | [] => by simp [nobA]
  | x :: xs => by rw [nobA, Bool.and_eq_true, nobA_iff (ds := xs)]; simp
theorem depthA_le : ∀ {ds : List D} {n : Nat}, (∀ d ∈ ds, d.depth ≤ n) → PyData.depthAll ds ≤ n
  | [], n, _ => by rw [PyData.depthAll]; exact Nat.zero_le _
  | x :: xs, n, h => by
    rw [PyData.depthAll]
    exact Nat.max_le.mpr ⟨h x List.mem_cons_self, depthA_le fun d hd => h d (List.mem_cons_of_mem _ hd)⟩
/-- plain: no bool, and not deep -/
def Pln (n : Nat) (d : D) : Prop := nob d = true ∧ d.depth ≤ n
theorem Pln.shaped {n : Nat} {d : D} (h : Pln n d) (hn : n ≤ 64) : SeqAt.shaped d = true := by
  unfold SeqAt.shaped
  rw [nob_lay d h.1, decide_eq_true (Nat.le_trans h.2 hn)]
  rfl
theorem Pln.list {n : Nat} {ds : List D} (h : ∀ d ∈ ds, Pln n d) : Pln (n + 1) (.list ds) := ⟨by rw [nob]; exact nobA_iff.mpr fun d hd => (h d hd).1, by rw [PyData.depth]; exact Nat.succ_le_succ (depthA_le fun d hd => (h d hd).2)⟩
theorem Pln.tuple {n : Nat} {ds : List D} (h : ∀ d ∈ ds, Pln n d) : Pln (n + 1) (.tuple ds) := ⟨by rw [nob]; exact nobA_iff.mpr fun d hd => (h d hd).1, by rw [PyData.depth]; exact Nat.succ_le_succ (depthA_le fun d hd => (h d hd).2)⟩
theorem pln_int {n : Nat} {i : Int} : Pln n (.int i) := ⟨by simp [nob], by simp [PyData.depth]⟩
theorem pln_none {n : Nat} : Pln n .none := ⟨by simp [nob], by simp [PyData.depth]⟩
theorem Pln.up {n m : Nat} {d : D} (h : Pln n d) (hm : n ≤ m) : Pln m d := ⟨h.1, Nat.le_trans h.2 hm⟩
theorem pln_iL {n : Nat} {xs : List Int} : ∀ d ∈ iL xs, Pln n d := fun d hd => by
  obtain ⟨i, _, rfl⟩ := List.mem_map.mp hd
  exact pln_int
theorem pln_tup {xs : List Int} : Pln 1 (.tuple (iL xs)) := .tuple pln_iL
theorem eqD_of {n : Nat} {d e : D} (hd : Pln n d) (he : Pln n e) (hn : n ≤ 64) [Decidable (d = e)] : eqD d e = some (.bool (decide (d = e))) := by
  unfold eqD
  rw [if_pos ⟨hd.shaped hn, he.shaped hn⟩, eqv_dec hd.1 he.1]
theorem eqD_int {a b : Int} : eqD (.int a) (.int b) = some (.bool (decide (a = b))) := by
  unfold eqD
  rw [if_pos ⟨(pln_int (n := 0)).shaped (by decide), (pln_int (n := 0)).shaped (by decide)⟩]
  simp [PyData.eqv]
  rfl
theorem neD_int {a b : Int} : neD (.int a) (.int b) = some (.bool (!decide (a = b))) := by
  unfold neD
  rw [if_pos ⟨(pln_int (n := 0)).shaped (by decide), (pln_int (n := 0)).shaped (by decide)⟩]
  simp [PyData.eqv]
  rfl
theorem bool_eq {a b : Bool} {p : Prop} (h1 : a = true ↔ p) (h2 : b = true ↔ p) : a = b := by
  cases a <;> cases b <;> simp_all
theorem eqD_b {n : Nat} {d e : D} {b : Bool} (hd : Pln n d) (he : Pln n e) (hn : n ≤ 64) (hb : b = true ↔ d = e) : eqD d e = some (.bool b) := by
  unfold eqD
  rw [if_pos ⟨hd.shaped hn, he.shaped hn⟩, bool_eq (eqv_eq d e hd.1 he.1) hb]
theorem neD_b {n : Nat} {d e : D} {b : Bool} (hd : Pln n d) (he : Pln n e) (hn : n ≤ 64) (hb : b = true ↔ d = e) : neD d e = some (.bool (!b)) := by
  unfold neD
  rw [if_pos ⟨hd.shaped hn, he.shaped hn⟩, bool_eq (eqv_eq d e hd.1 he.1) hb]
end DM
/-! DM2: threads of places, spans, tables. -/
namespace DM
open PySem PySem.Spec L2 DL
/-- the rise of each place over its thread's first -/
def Rf (f : Nat) (c : Nat → Int) (p : Nat) : Int :=
  if h : p < f ∨ f = 0 then 0 else Rf f c (p - f) + c (p - f + 1) - c (p - f)
termination_by p
decreasing_by omega
section
variable {f P t p : Nat} {c : Nat → Int} {cap : Int}
end
/-! ### tables -/
abbrev Tab := List (Int × Int)
def tlook (t : Tab) (k : Int) : Int := ((t.find? fun p => decide (p.1 = k)).map (·.2)).getD 0
def tput (t : Tab) (k v : Int) : Tab := if (t.any fun p => decide (p.1 = k)) = true then t.map (fun p => if p.1 = k then (p.1, v) else p) else t ++ [(k, v)]
/-- one number's row of a table -/
def trow (s m lo : Int) : Nat → Tab → Tab
  | 0, t => t
  | n + 1, t => let u := trow s m lo n t; tput u (s + (lo + n)) (tlook u (s + (lo + n)) + m)
/-- a table by one thread more -/
def tstep (lo : Int) (n : Nat) (t : Tab) : Tab := t.foldl (fun u p => trow p.1 p.2 lo n u) []
theorem sum_snoc {xs : List Int} {x : Int} : (xs ++ [x]).sum = xs.sum + x := by simp
end DM
/-! DM3: counts of rows, what rows a telling leaves, the least of them. -/
namespace DM
open PySem PySem.Spec L2 DL
def sumN : Nat → (Nat → Int) → Int
  | 0, _ => 0
  | n + 1, g => sumN n g + g n
theorem sumN_congr {g h : Nat → Int} : ∀ {n : Nat}, (∀ i, i < n → g i = h i) → sumN n g = sumN n h
  | 0, _ => rfl
  | n + 1, e => by
    show sumN n g + g n = sumN n h + h n
    rw [sumN_congr fun i hi => e i (by omega), e n (by omega)]
theorem sumN_map {g : Nat → Int} : ∀ {n : Nat}, ((List.range n).map g).sum = sumN n g
  | 0 => rfl
  | n + 1 => by rw [List.range_succ, List.map_append, List.map_singleton, sum_snoc, sumN_map]; rfl
/-- the count at a stand -/
def cnt (f : Nat) (r : Nat → Int) (s : Nat) : Int := sumN f fun j => r (s + j)
def csL (f : Nat) (row : List Int) : List Int := (List.range (row.length - f + 1)).map (cnt f (gI row))
/-! ### the least row -/
end DM
/-! DM8: things: no dicts, short, not deep. -/
namespace DM
open PySem PySem.Spec L2 DL
/-- short, plain signs alone -/
def txtOk (n : Nat) (x : Str) : Bool := decide (x.length ≤ n) && x.cps.toList.all (· < 128)
mutual
def gd (n : Nat) : D → Bool
  | .none | .bool _ | .int _ => true
  | .str x => txtOk n x
  | .list xs => decide (xs.length ≤ n) && gdA n xs
  | .tuple xs => decide (xs.length ≤ n) && gdA n xs
  | .dict _ => false
def gdA (n : Nat) : List D → Bool
  | [] => true
  | x :: xs => gd n x && gdA n xs
end
theorem gdA_iff {n : Nat} : ∀ {xs : List D}, gdA n xs = true ↔ ∀ x ∈ xs, gd n x = true
  | [] => by simp [gdA]
  | x :: xs => by rw [gdA, Bool.and_eq_true, gdA_iff (xs := xs)]; simp
theorem txtOk_up {n m : Nat} {x : Str} (h : txtOk n x = true) (hm : n ≤ m) : txtOk m x = true := by
  unfold txtOk at h ⊢
  rw [Bool.and_eq_true, decide_eq_true_eq] at h ⊢
  exact ⟨Nat.le_trans h.1 hm, h.2⟩
mutual
theorem gd_up {n m : Nat} (hm : n ≤ m) : ∀ d : D, gd n d = true → gd m d = true
  | .none, _ => by simp [gd]
  | .bool _, _ => by simp [gd]
  | .int _, _ => by simp [gd]
  | .str x, h => by rw [gd] at h ⊢; exact txtOk_up h hm
  | .list xs, h => by
    rw [gd, Bool.and_eq_true, decide_eq_true_eq] at h ⊢
    exact ⟨Nat.le_trans h.1 hm, gdA_up hm xs h.2⟩
  | .tuple xs, h => by
    rw [gd, Bool.and_eq_true, decide_eq_true_eq] at h ⊢
    exact ⟨Nat.le_trans h.1 hm, gdA_up hm xs h.2⟩
  | .dict _, h => by simp [gd] at h
theorem gdA_up {n m : Nat} (hm : n ≤ m) : ∀ xs : List D, gdA n xs = true → gdA m xs = true
  | [], _ => by simp [gdA]
  | x :: xs, h => by
    rw [gdA, Bool.and_eq_true] at h ⊢
    exact ⟨gd_up hm x h.1, gdA_up hm xs h.2⟩
end
mutual
theorem gd_lay {n : Nat} : ∀ d : D, gd n d = true → d.canLay0 = true
  | .none, _ => by simp [PyData.canLay0]
  | .bool _, _ => by simp [PyData.canLay0]
  | .int _, _ => by simp [PyData.canLay0]
  | .str x, h => by
    rw [gd] at h
    unfold txtOk at h
    rw [Bool.and_eq_true] at h
    rw [PyData.canLay0]
    have h2 := h.2
    show x.cps.all (· < 0x110000) = true
    rw [← Array.all_toList]
    rw [List.all_eq_true] at h2 ⊢
    intro c hc
    have := h2 c hc
    simp at this ⊢
    omega
  | .list xs, h => by
    rw [gd, Bool.and_eq_true] at h
    rw [PyData.canLay0]; exact gdA_lay xs h.2
  | .tuple xs, h => by
    rw [gd, Bool.and_eq_true] at h
    rw [PyData.canLay0]; exact gdA_lay xs h.2
  | .dict _, h => by simp [gd] at h
theorem gdA_lay {n : Nat} : ∀ xs : List D, gdA n xs = true → PyData.canLayAll0 xs = true
  | [], _ => by simp [PyData.canLayAll0]
  | x :: xs, h => by
    rw [gdA, Bool.and_eq_true] at h
    rw [PyData.canLayAll0, gd_lay x h.1, gdA_lay xs h.2]; rfl
end
/-- short, and not deep -/
def Gd (n k : Nat) (d : D) : Prop := gd n d = true ∧ d.depth ≤ k
theorem Gd.up {n m k l : Nat} {d : D} (h : Gd n k d) (h1 : n ≤ m) (h2 : k ≤ l) : Gd m l d := ⟨gd_up h1 d h.1, Nat.le_trans h.2 h2⟩
theorem Gd.shaped {n k : Nat} {d : D} (h : Gd n k d) (hk : k ≤ 64) : SeqAt.shaped d = true := by
  unfold SeqAt.shaped
  rw [gd_lay d h.1, decide_eq_true (Nat.le_trans h.2 hk)]; rfl
theorem depthA_mem : ∀ {ds : List D} {n : Nat}, PyData.depthAll ds ≤ n → ∀ d ∈ ds, d.depth ≤ n
  | [], _, _, d, hd => by cases hd
  | x :: xs, n, h, d, hd => by
    rw [PyData.depthAll] at h
    obtain ⟨h1, h2⟩ := Nat.max_le.mp h
    rcases List.mem_cons.mp hd with e | e
    · rw [e]; exact h1
    · exact depthA_mem h2 d e
theorem Gd.ofList {n k : Nat} {ds : List D} (h : Gd n k (.list ds)) : ds.length ≤ n ∧ ∃ j, k = j + 1 ∧ ∀ d ∈ ds, Gd n j d := by
  obtain ⟨h1, h2⟩ := h
  rw [gd, Bool.and_eq_true, decide_eq_true_eq] at h1
  rw [PyData.depth] at h2
  cases k with
  | zero => omega
  | succ j => exact ⟨h1.1, j, rfl, fun d hd => ⟨gdA_iff.mp h1.2 d hd, depthA_mem (by omega) d hd⟩⟩
theorem Gd.ofTuple {n k : Nat} {ds : List D} (h : Gd n k (.tuple ds)) : ds.length ≤ n ∧ ∃ j, k = j + 1 ∧ ∀ d ∈ ds, Gd n j d := by
  obtain ⟨h1, h2⟩ := h
  rw [gd, Bool.and_eq_true, decide_eq_true_eq] at h1
  rw [PyData.depth] at h2
  cases k with
  | zero => omega
  | succ j => exact ⟨h1.1, j, rfl, fun d hd => ⟨gdA_iff.mp h1.2 d hd, depthA_mem (by omega) d hd⟩⟩
theorem Gd.len {n k : Nat} {d : D} {ds : List D} (h : Gd n k d) (e : d = .list ds ∨ d = .tuple ds) : ds.length ≤ n := by
  rcases e with e | e
  · subst e; exact h.ofList.1
  · subst e; exact h.ofTuple.1
/-! texts -/
end DM
namespace X
open PySem PySem.Spec L2 DL DM
theorem mulI1 {a b : Int} (h : a.natAbs < 18446744073709551616) : mulD (.int a) (.int b) = some (.int (a * b)) := by
  show (if midI a = true ∨ midI b = true ∨ a.natAbs.log2 + b.natAbs.log2 < 1000000 then some (PyData.int (a * b)) else none) = _
  rw [if_pos (.inl (decide_eq_true h))]
theorem mulI2 {a b : Int} (h : b.natAbs < 18446744073709551616) : mulD (.int a) (.int b) = some (.int (a * b)) := by
  show (if midI a = true ∨ midI b = true ∨ a.natAbs.log2 + b.natAbs.log2 < 1000000 then some (PyData.int (a * b)) else none) = _
  rw [if_pos (.inr (.inl (decide_eq_true h)))]
theorem fdivI {a b : Int} (h : 0 < b) (h2 : b.natAbs < 1073741824) : fdivD (.int a) (.int b) = some (.int (a / b)) := by
  show (if 0 < b ∧ b.natAbs < 1073741824 then some (PyData.int (a / b)) else none) = _
  rw [if_pos ⟨h, h2⟩]
theorem modI {a b : Int} (h : 0 < b) : modD (.int a) (.int b) = some (.int (a % b)) := by
  rw [ev_modII, if_pos h]
/-- a draw -/
def DrawTo (m : Int) : D → Dr → Prop := fun d c' => ∃ r : Int, d = .int r ∧ 0 ≤ r ∧ r < m ∧ OkDr c'
theorem F_l_draw_eq {m : Int} {c : Dr} (hm : 1 ≤ m) (hm2 : m ≤ 268435456) (hc : OkDr c) : ∃ d c', F_l_draw [.int m] c = some (d, c') ∧ DrawTo m d c' := by
  obtain ⟨h1, h2, h3, h4⟩ := hc
  refine bodyD_of rfl ?_
  unfold S_l_draw
  have hq : (c.1 % m).natAbs < 1073741824 := by
    have := Int.emod_nonneg c.1 (show m ≠ 0 by omega)
    have := Int.emod_lt_of_pos c.1 (show 0 < m by omega)
    omega
  by_cases h : 0 < c.1
  · refine ⟨(.rt (.int (c.1 % m)), [.dr, .im (.int m), .im (.int (c.1 % m)), .un], (c.1 / m, c.2)), ?_, .int (c.1 % m), rfl, c.1 % m, rfl, Int.emod_nonneg _ (by omega), Int.emod_lt_of_pos _ (by omega), ?_⟩
    · refine seq_rt (DL.ifT (c1 := c) ?_ ?_)
      · simp [h]
      · simp [modI (show 0 < m by omega), fdivI (show 0 < m by omega) (show m.natAbs < 1073741824 by omega), show 0 < m by omega]
    · refine ⟨Int.ediv_nonneg (by omega) (by omega), h2, h3, ?_⟩
      have := Int.ediv_le_self m h1
      show c.1 / m < _
      omega
  · refine .pass (c1 := c) (by simp [h]) ?_
    by_cases hm1 : m = 1
    · subst hm1
      refine ⟨(.rt (.int 0), [.dr, .im (.int 1), .im (.int 0), .im (.int 1)], c), ?_, .int 0, rfl, 0, rfl, by omega, by omega, h1, h2, h3, h4⟩
      simp [whileS]
    · have g1 : 1 < m := by omega
      have e1 : mulD (.int c.2) (.int 69621) = some (.int (c.2 * 69621)) := mulI2 (by decide)
      have z1 : 0 ≤ c.2 * 69621 % 2147483647 ∧ c.2 * 69621 % 2147483647 < 2147483647 := by omega
      generalize ez : c.2 * 69621 % 2147483647 = z at z1
      have e2 : mulD (.int z) (.int (z / 128 + 3)) = some (.int (z * (z / 128 + 3))) := mulI1 (by omega)
      have e3 : mulD (.int 0) (.int 268435456) = some (.int 0) := mulI2 (by decide)
      have e4 : mulD (.int 1) (.int 268435456) = some (.int 268435456) := mulI2 (by decide)
      have e5 : ∀ a, fdivD (.int a) (.int 128) = some (.int (a / 128)) := fun a => fdivI (by decide) (by decide)
      have e6 : ∀ a, fdivD (.int a) (.int 8) = some (.int (a / 8)) := fun a => fdivI (by decide) (by decide)
      have g2 : ¬ (268435456 : Int) < m := by omega
      have g3 : (0 : Int) < m := by omega
      refine ⟨(.rt (.int ((z * (z / 128 + 3) % 2147483629 / 8) % m)), [.dr, .im (.int m), .im (.int (z * (z / 128 + 3) % 2147483629 / 8)), .im (.int 268435456)], (c.1, z)), ?_, _, rfl, _, rfl, Int.emod_nonneg _ (by omega), Int.emod_lt_of_pos _ (by omega), h1, z1.1, z1.2, h4⟩
      simp [whileS, g1, g2, g3, e1, e2, e3, e4, e5, e6, ez]
theorem F_l_of_eq {ds : List D} {c : Dr} (h1 : 1 ≤ ds.length) (h2 : ds.length ≤ 1000000) (hc : OkDr c) : ∃ d c', F_l_of [.list ds] c = some (d, c') ∧ d ∈ ds ∧ OkDr c' := by
  obtain ⟨d, c', e, r, rfl, r0, r1, ok⟩ := F_l_draw_eq (m := (ds.length : Int)) (c := c) (by omega) (by omega) hc
  obtain ⟨k, rfl⟩ : ∃ k : Nat, r = k := ⟨r.toNat, by omega⟩
  have hk : k < ds.length := by omega
  refine bodyD_of (P := fun d c' => d ∈ ds ∧ OkDr c') rfl ?_
  unfold S_l_of
  refine ⟨(.rt ds[k], [.dr, .im (.list ds)], c'), ?_, ds[k], rfl, List.getElem_mem hk, ok⟩
  simp [e, atI_nil hk]
theorem ints_of {R : Int → Prop} : ∀ {ds : List D}, (∀ d ∈ ds, ∃ r, d = .int r ∧ R r) → ∃ xs, ds = iL xs ∧ ∀ x ∈ xs, R x
  | [], _ => ⟨[], rfl, fun _ h => by cases h⟩
  | d :: ds, h => by
    obtain ⟨r, rfl, hr⟩ := h d List.mem_cons_self
    obtain ⟨xs, rfl, hx⟩ := ints_of fun e he => h e (List.mem_cons_of_mem _ he)
    refine ⟨r :: xs, rfl, fun x hx' => ?_⟩
    rcases List.mem_cons.mp hx' with z | z
    · rw [z]; exact hr
    · exact hx x z
theorem ixN_nat {n k : Nat} (h : k < n) : ixN n (k : Int) = some k := by
  unfold ixN
  rw [if_pos (by omega), if_pos (by omega)]
  rw [Int.toNat_natCast]
theorem F_l_counts_eq {f : Nat} {row : List Int} (hf : 1 ≤ f) (hP : f ≤ row.length) (h3 : row.length ≤ 1000) : F_l_counts [.tuple (iL row), .int f] = some (.tuple (iL (csL f row))) := by
  refine bodyP_of rfl ?_
  unfold S_l_counts
  refine .seq (ρ1 := [.im (.tuple (iL row)), .im (.int f), .ol [], .un, .un, .un]) (c1 := (0, 0)) (by simp [few]) ?_
  refine .seq (for_run (c1 := (0, 0)) (xs := rngL 0 (row.length - f + 1)) (st := fun i => [.im (.tuple (iL row)), .im (.int f), .ol (iL ((List.range i).map (cnt f (gI row)))), .un, .un, .un]) ?_ rfl fun i x hx => ?_) ?_
  · have e1 : okR ((row.length : Int) - f + 1) = true := okR_of (by omega) (by omega)
    have e2 : ((row.length : Int) - f + 1).toNat = row.length - f + 1 := by omega
    simp [e1, e2]
  · obtain ⟨hi, rfl⟩ := rngL_lt hx
    refine ⟨_, rfl, then_run (ρ1 := [.im (.tuple (iL row)), .im (.int f), .ol (iL ((List.range (i + 1)).map (cnt f (gI row)))), .im (.int (0 + i)), .im (.int (cnt f (gI row) i)), .un]) ?_ rfl⟩
    refine seq_run (ρ1 := [.im (.tuple (iL row)), .im (.int f), .ol (iL ((List.range i).map (cnt f (gI row)))), .im (.int (0 + i)), .im (.int 0), .un]) (c1 := (0, 0)) (by simp) ?_
    refine seq_run (for_run (c1 := (0, 0)) (xs := rngL (i : Int) f) (st := fun j => [.im (.tuple (iL row)), .im (.int f), .ol (iL ((List.range i).map (cnt f (gI row)))), .im (.int (0 + i)), .im (.int (sumN j fun j => gI row (i + j))), .un]) ?_ rfl fun j y hy => ?_) ?_
    · have e1 : okR (i : Int) = true := okR_of (by omega) (by omega)
      have e2 : okR ((i : Int) + f) = true := okR_of (by omega) (by omega)
      have e3 : ((i : Int) + f - i).toNat = f := by omega
      simp [e1, e2, e3]
    · obtain ⟨hj, rfl⟩ := rngL_lt hy
      refine ⟨_, rfl, then_run (ρ1 := [.im (.tuple (iL row)), .im (.int f), .ol (iL ((List.range i).map (cnt f (gI row)))), .im (.int (0 + i)), .im (.int (sumN (j + 1) fun j => gI row (i + j))), .im (.int (i + j))]) ?_ rfl⟩
      have e1 : atI (iL row) ((i : Int) + j) = some (.int (gI row (i + j))) := atI_iL (j := i + j) (by omega)
      simp [e1]
      rfl
    · rw [rngL_len]
      have e1 : few i = true := few_of (by omega)
      have e2 : iL ((List.range (i + 1)).map (cnt f (gI row))) = iL ((List.range i).map (cnt f (gI row))) ++ [.int (cnt f (gI row) i)] := by rw [List.range_succ, List.map_append, iL_app]; rfl
      rw [e2]
      simp [e1]
      rfl
  · rw [rngL_len]
    exact .frz rfl (.ret (d := .tuple (iL (csL f row))) (c1 := (0, 0)) (by simp; rfl) rfl)
/-- a whole number from lo to hi -/
def btw (lo hi : Int) : D → Bool
  | .int i => decide (lo ≤ i) && decide (i ≤ hi)
  | _ => false
theorem F_is_between_eq {d : D} {lo hi : Int} : F_is_between [d, .int lo, .int hi] = some (.bool (btw lo hi d)) := by
  refine bodyP_of rfl ?_
  unfold S_is_between
  cases d with
  | int x =>
    have e1 : isB .int (.int x) = true := rfl
    have e2 : isB .bool (.int x) = false := rfl
    by_cases h : lo ≤ x
    · exact .ret (c1 := (0, 0)) (by simp [e1, e2, h]; rfl) (by simp [h, btw])
    · exact .ret (c1 := (0, 0)) (by simp [e1, e2, h]; rfl) (by simp [h, btw])
  | bool b =>
    have e1 : isB .int (.bool b) = true := rfl
    have e2 : isB .bool (.bool b) = true := rfl
    exact .ret (c1 := (0, 0)) (by simp [e1, e2]; rfl) (by simp [btw])
  | none =>
    have e1 : isB .int .none = false := rfl
    exact .ret (c1 := (0, 0)) (by simp [e1]; rfl) (by simp [btw])
  | str x =>
    have e1 : isB .int (.str x) = false := rfl
    exact .ret (c1 := (0, 0)) (by simp [e1]; rfl) (by simp [btw])
  | list x =>
    have e1 : isB .int (.list x) = false := rfl
    exact .ret (c1 := (0, 0)) (by simp [e1]; rfl) (by simp [btw])
  | tuple x =>
    have e1 : isB .int (.tuple x) = false := rfl
    exact .ret (c1 := (0, 0)) (by simp [e1]; rfl) (by simp [btw])
  | dict x =>
    have e1 : isB .int (.dict x) = false := rfl
    exact .ret (c1 := (0, 0)) (by simp [e1]; rfl) (by simp [btw])
theorem F_l_is_whole_eq {d : D} {lo hi : Int} : F_l_is_whole [d, .int lo, .int hi] = some (.bool (btw lo hi d)) := F_is_between_eq
theorem allD_map {xs : List D} {g : D → Bool} : allD [.list (xs.map fun d => .bool (g d))] = some (.bool (xs.all g)) := by
  have e : (xs.map fun d => PyData.bool (g d)) = (xs.map g).map PyData.bool := by rw [List.map_map]; rfl
  rw [e]
  show (boolsD _).map _ = _
  rw [boolsD_map]
  show some (PyData.bool ((xs.map g).all id)) = _
  rw [List.all_map]; rfl
end X
/-! DM4: how large the tables grow; bounds of rises; loops over a dict. -/
namespace DM
open PySem PySem.Spec L2 DL
theorem nodup_len : ∀ (n : Nat) (a : Int) (l : List Int), l.Nodup → (∀ x ∈ l, a ≤ x ∧ x < a + n) → l.length ≤ n
  | 0, a, [], _, _ => Nat.le_refl _
  | 0, a, x :: l, _, h => by
    have := h x List.mem_cons_self
    omega
  | n + 1, a, l, hn, h => by
    have h2 := nodup_len n a (l.erase (a + n)) (hn.erase _) fun x hx => by
      have h3 := (List.Nodup.mem_erase_iff hn).mp hx
      have h4 := h x h3.2
      have h5 := h3.1
      omega
    have h6 : l.length ≤ (l.erase (a + n)).length + 1 := by
      rw [List.length_erase]
      split <;> omega
    omega
def KIn (A B : Int) (t : Tab) : Prop := (t.map (·.1)).Nodup ∧ ∀ p ∈ t, A ≤ p.1 ∧ p.1 < B
theorem KIn.len {A B : Int} {t : Tab} (h : KIn A B t) : t.length ≤ (B - A).toNat := by
  have := nodup_len (B - A).toNat A (t.map (·.1)) h.1 fun x hx => by
    obtain ⟨p, hp, rfl⟩ := List.mem_map.mp hx
    have := h.2 p hp
    omega
  rwa [List.length_map] at this
theorem KIn.put {A B k v : Int} {t : Tab} (h : KIn A B t) (h1 : A ≤ k) (h2 : k < B) : KIn A B (tput t k v) := by
  unfold tput
  split
  · refine ⟨?_, fun p hp => ?_⟩
    · rw [List.map_map, List.map_congr_left (g := (·.1)) fun p _ => ?_]
      · exact h.1
      · show (if p.1 = k then (p.1, v) else p).1 = p.1
        split <;> rfl
    · obtain ⟨q, hq, rfl⟩ := List.mem_map.mp hp
      have := h.2 q hq
      split <;> exact this
  · rename_i hn
    refine ⟨?_, fun p hp => ?_⟩
    · rw [List.map_append, List.nodup_append]
      refine ⟨h.1, by simp, fun a ha b hb => ?_⟩
      have hb : b = k := by simpa using hb
      subst hb
      intro e
      subst e
      obtain ⟨p, hp, e⟩ := List.mem_map.mp ha
      exact hn (List.any_eq_true.mpr ⟨p, hp, decide_eq_true e⟩)
    · rcases List.mem_append.mp hp with z | z
      · exact h.2 p z
      · rw [List.mem_singleton.mp z]; exact ⟨h1, h2⟩
theorem KIn.row {A B s m lo : Int} : ∀ {n : Nat} {t : Tab}, KIn A B t → A ≤ s + lo → s + lo + n ≤ B → KIn A B (trow s m lo n t)
  | 0, t, h, _, _ => h
  | n + 1, t, h, h1, h2 => (KIn.row (n := n) h h1 (by omega)).put (by omega) (by omega)
theorem KIn.fold {A B A' B' lo : Int} {n : Nat} : ∀ {t : Tab} {u : Tab}, (∀ p ∈ t, A ≤ p.1 ∧ p.1 < B) → A' ≤ A + lo → B + lo + n ≤ B' → KIn A' B' u → KIn A' B' (t.foldl (fun u p => trow p.1 p.2 lo n u) u)
  | [], u, _, _, _, h => h
  | p :: t, u, hp, h1, h2, h => by
    have := hp p List.mem_cons_self
    exact KIn.fold (t := t) (fun q hq => hp q (List.mem_cons_of_mem _ hq)) h1 h2 (h.row (by omega) (by omega))
theorem KIn.nil {A B : Int} : KIn A B [] := ⟨by simp, fun p hp => by cases hp⟩
theorem KIn.step {A B lo : Int} {n : Nat} {t : Tab} (h : KIn A B t) : KIn (A + lo) (B + lo + n) (tstep lo n t) := KIn.fold h.2 (Int.le_refl _) (Int.le_refl _) .nil
def CB (cs : List Int) : Prop := ∀ x ∈ cs, 0 ≤ x ∧ x ≤ 1000
theorem CB.get {cs : List Int} (h : CB cs) (i : Nat) : 0 ≤ gI cs i ∧ gI cs i ≤ 1000 := by
  unfold gI
  rw [List.getD]
  cases q : cs[i]? with
  | none => exact ⟨by decide, by decide⟩
  | some x => exact h x (List.mem_of_getElem? q)
/-! ### loops over a dict -/
section
variable {ρ ρ' : Rho} {c : Dr}
end
end DM
/-! DM5: all lots, how many are right, the first of them. -/
namespace DM
open PySem PySem.Spec L2 DL
/-! order -/
/-! counting -/
end DM
/-! DM6: the rows that a telling leaves, from either end and by what is missing. -/
namespace DM
open PySem PySem.Spec L2 DL
theorem gI_ext {xs ys : List Int} (hl : xs.length = ys.length) (h : ∀ i, i < xs.length → gI xs i = gI ys i) : xs = ys := by
  apply List.ext_getElem hl
  intro i h1 h2
  have := h i h1
  unfold gI at this
  simpa [List.getD, h1, h2] using this
theorem sum_gI : ∀ {n : Nat} {xs : List Int}, xs.length = n → xs.sum = sumN n (gI xs)
  | n, xs, h => by
    have : xs = (List.range n).map (gI xs) := gI_ext (by simp [h]) fun i hi => by
      rw [h] at hi
      conv => rhs; unfold gI
      simp [List.getD, hi]
      rfl
    conv => lhs; rw [this]
    exact sumN_map
section
variable {P cap f : Nat} {cs : List Int}
end
end DM
namespace X
open PySem PySem.Spec L2 DL DM
/-- a drawn row -/
def ARow (P cap : Nat) (d : D) : Prop := ∃ row : List Int, d = .tuple (iL row) ∧ row.length = P ∧ ∀ x ∈ row, 0 ≤ x ∧ x ≤ cap
theorem F_l_row_eq {P cap : Nat} {c : Dr} (hP : P ≤ 1000) (hcap : 1 ≤ cap) (hcap2 : cap ≤ 1000) (hc : OkDr c) : ∃ d c', F_l_row [.int P, .int cap] c = some (d, c') ∧ ARow P cap d ∧ OkDr c' := by
  obtain ⟨d, c1, e1, hd, ok1⟩ := F_l_of_eq (ds := [.int 1, .int cap, .int cap]) (c := c) (by simp) (by simp) hc
  have hd' : ∃ far : Nat, d = .int far ∧ far ≤ cap := by
    simp only [List.mem_cons, List.not_mem_nil, or_false] at hd
    rcases hd with h | h | h
    · exact ⟨1, h, hcap⟩
    · exact ⟨cap, h, Nat.le_refl _⟩
    · exact ⟨cap, h, Nat.le_refl _⟩
  obtain ⟨far, rfl, hfar⟩ := hd'
  have hl := lcS_draw (fun d => ∃ r : Int, d = .int r ∧ 0 ≤ r ∧ r ≤ far) OkDr (tg := qN 5) (e := sCallD F_l_draw 0 (sCons (sOp addD (sV 3) (sC (.int 1))) sNil)) (ρ0 := [.dr, .im (.int P), .im (.int cap), .im (.int far), .un, .un, .un]) (xs := rngL 0 P) (c := c1) ok1 (fun x _ => ⟨_, rfl, fun c hc => by
    obtain ⟨d, c', e, r, rfl, r0, r1, ok⟩ := F_l_draw_eq (m := (far : Int) + 1) (c := c) (by omega) (by omega) hc
    exact ⟨_, c', by simp [e], ⟨r, rfl, r0, by omega⟩, ok⟩⟩)
  obtain ⟨ds, c2, e2, hl, hG, ok2⟩ := hl
  obtain ⟨xs, rfl, hx⟩ := ints_of hG
  rw [iL_len, rngL_len] at hl
  obtain ⟨d3, c3, e3, q, rfl, q0, q1, ok3⟩ := F_l_draw_eq (m := 4) (c := c2) (by omega) (by omega) ok2
  refine bodyD_of (P := fun d c' => ARow P cap d ∧ OkDr c') rfl ?_
  unfold S_l_row
  have oP : okR (P : Int) = true := okR_of (by omega) (by omega)
  have fP : few P = true := few_of (by omega)
  have f3 : few 3 = true := by decide
  refine .seq (ρ1 := [.dr, .im (.int P), .im (.int cap), .im (.int far), .un, .un, .un]) (c1 := c1) (by simp [e1, f3]) ?_
  refine .seq (ρ1 := [.dr, .im (.int P), .im (.int cap), .im (.int far), .im (.list (iL xs)), .un, .un]) (c1 := c2) (by simp [oP, rngL_len, fP, e2]) ?_
  have eq4 : eqD (.int q) (.int 0) = some (.bool (decide (q = 0))) := eqD_int
  by_cases hq : q = 0
  · subst hq
    refine .seq (ρ1 := [.dr, .im (.int P), .im (.int cap), .im (.int far), .im (.list (iL (xs.map fun x => (cap : Int) - x))), .un, .un]) (c1 := c3) ?_ ?_
    · refine DL.ifT (c1 := c3) (by simp [e3, eq4]) ?_
      have em := lcS_map (tg := qN 6) (e := sOp subD (sV 2) (sV 6)) (ρ0 := [.dr, .im (.int P), .im (.int cap), .im (.int far), .im (.list (iL xs)), .un, .un]) (xs := iL xs) (c := c3) (fun d => match d with | .int i => .int ((cap : Int) - i) | d => d) (fun x hx => by
        obtain ⟨i, _, rfl⟩ := List.mem_map.mp hx
        exact ⟨_, rfl, by simp⟩)
      have e5 : (iL xs).map (fun d => match d with | .int i => PyData.int ((cap : Int) - i) | d => d) = iL (xs.map fun x => (cap : Int) - x) := by
        unfold iL; rw [List.map_map, List.map_map]; rfl
      rw [e5] at em
      simp [hl, fP, em]
    · refine .ret (d := .tuple (iL (xs.map fun x => (cap : Int) - x))) (c1 := c3) (by simp) ⟨_, rfl, ⟨_, rfl, by rw [List.length_map]; exact hl, fun y hy => ?_⟩, ok3⟩
      obtain ⟨x, hx', rfl⟩ := List.mem_map.mp hy
      have := hx x hx'
      omega
  · refine .seq (ρ1 := [.dr, .im (.int P), .im (.int cap), .im (.int far), .im (.list (iL xs)), .un, .un]) (c1 := c3) (DL.ifF (c1 := c3) (by simp [e3, eq4, hq]) rfl) ?_
    refine .ret (d := .tuple (iL xs)) (c1 := c3) (by simp) ⟨_, rfl, ⟨_, rfl, hl, fun y hy => ?_⟩, ok3⟩
    have := hx y hy
    omega
/-- the items of a tuple -/
def tupOf : D → Option (List D)
  | .tuple xs => some xs
  | _ => none
theorem isTup_no {d : D} (h : tupOf d = none) : isB .tuple d = false := by
  cases d with
  | tuple xs => cases h
  | _ => rfl
theorem isTup_yes {xs : List D} : isB .tuple (.tuple xs) = true := rfl
theorem tup_cases (d : D) : (∃ xs, d = .tuple xs) ∨ tupOf d = none := by
  cases d with
  | tuple xs => exact .inl ⟨xs, rfl⟩
  | _ => exact .inr rfl
def rowB (cap : Int) (d : D) : Bool := match tupOf d with
  | some xs => decide (1 ≤ (xs.length : Int)) && decide ((xs.length : Int) ≤ 24) && xs.all (btw 0 cap)
  | none => false
theorem F_is_row_eq {cap : Int} {d : D} (hd : ∀ xs, d = .tuple xs → xs.length ≤ 1000000) : F_is_row [.int cap, d] = some (.bool (rowB cap d)) := by
  refine bodyP_of rfl ?_
  unfold S_is_row rowB
  rcases tup_cases d with ⟨xs, rfl⟩ | h
  · have fx : few xs.length = true := few_of (hd xs rfl)
    have l1 := lcS_map (tg := qN 2) (e := sCall F_is_between (sCons (sV 2) (sCons (sC (.int 0)) (sCons (sV 0) sNil)))) (ρ0 := [.im (.int cap), .im (.tuple xs), .un]) (xs := xs) (c := (0, 0)) (fun d => .bool (btw 0 cap d)) (fun x _ => ⟨_, rfl, by simp [F_is_between_eq]⟩)
    by_cases h1 : 1 ≤ (xs.length : Int)
    · by_cases h2 : (xs.length : Int) ≤ 24
      · refine .pass (c1 := (0, 0)) (by simp [isTup_yes, h1, h2]) ?_
        exact .ret (c1 := (0, 0)) (by simp [fx, l1, allD_map]; rfl) (by simp [tupOf, h1, h2])
      · exact .leave (c1 := (0, 0)) (c2 := (0, 0)) (d := .bool false) (by simp [isTup_yes, h1, h2]) rfl (by simp [tupOf, h2])
    · exact .leave (c1 := (0, 0)) (c2 := (0, 0)) (d := .bool false) (by simp [isTup_yes, h1]) rfl (by simp [tupOf, h1])
  · have e1 := isTup_no h
    exact .leave (c1 := (0, 0)) (c2 := (0, 0)) (d := .bool false) (by simp [e1]) rfl (by simp [h])
section
variable {P cap f : Nat} {cs : List Int}
theorem cut_mid {α : Type} {xs : List α} {i j : Nat} (h : i ≤ j) (h2 : j ≤ xs.length) : cutL xs (some (i : Int)) (some (j : Int)) = (xs.drop i).take (j - i) := by
  unfold cutL
  rw [HT.sIx_nat, HT.sIx_nat, Nat.min_eq_left h2, Nat.min_eq_left (show i ≤ xs.length by omega)]
theorem cnt_list {row : List Int} {s : Nat} (h : s + f ≤ row.length) : ((row.drop s).take f).sum = cnt f (gI row) s := by
  rw [sum_gI (n := f) (by rw [List.length_take, List.length_drop]; omega)]
  unfold cnt
  refine sumN_congr fun j hj => ?_
  unfold gI
  simp [List.getD, List.getElem?_take, hj]
theorem seqI_T {xs : List Int} : seqI (.tuple (iL xs)) = some xs := by
  show intsD (iL xs) = _
  unfold iL
  rw [intsD_map]
theorem sumA_T {xs : List Int} : sumA [.tuple (iL xs)] = some (.int xs.sum) := by
  show (seqI (.tuple (iL xs))).map _ = _
  rw [seqI_T]; rfl
theorem rng_mem {lo : Int} {n : Nat} {x : D} (h : x ∈ rngL lo n) : ∃ i : Nat, i < n ∧ x = .int (lo + i) := by
  obtain ⟨p, hp, e⟩ := List.getElem_of_mem h
  exact ⟨p, rngL_lt (by rw [List.getElem?_eq_getElem hp, e])⟩
theorem F_counts_of_eq {row : List Int} (hf : 1 ≤ f) (hP : f ≤ row.length) (h3 : row.length ≤ 1000) : F_counts_of [.tuple (iL row), .int f] = some (.tuple (iL (csL f row))) := by
  refine bodyP_of rfl ?_
  unfold S_counts_of
  have ec := lcS_map (tg := qN 2) (e := sCB sumA (sCons (sSl slD (sV 0) (sP (sV 2)) (sP (sOp addD (sV 2) (sV 1)))) sNil)) (ρ0 := [.im (.tuple (iL row)), .im (.int f), .un]) (xs := rngL 0 (row.length - f + 1)) (c := (0, 0)) (fun d => match d with | .int k => .int (cnt f (gI row) k.toNat) | d => d) (fun x hx => by
    obtain ⟨s, hs, rfl⟩ := rng_mem hx
    refine ⟨_, rfl, ?_⟩
    have e1 : cutL (iL row) (some (s : Int)) (some ((s : Int) + f)) = iL ((row.drop s).take f) := by
      have := cut_mid (xs := iL row) (i := s) (j := s + f) (by omega) (by rw [iL_len]; omega)
      rw [Int.natCast_add] at this
      rw [this]
      unfold iL
      rw [← List.map_drop, ← List.map_take, Nat.add_sub_cancel_left]
    have e2 := sumA_T (xs := (row.drop s).take f)
    rw [cnt_list (by omega)] at e2
    simp only [Int.zero_add]
    simp [e1, e2])
  have ed : (rngL 0 (row.length - f + 1)).map (fun d => match d with | .int k => PyData.int (cnt f (gI row) k.toNat) | d => d) = iL (csL f row) := by
    unfold rngL iL csL
    rw [List.map_map, List.map_map]
    refine List.map_congr_left fun p _ => ?_
    show PyData.int _ = PyData.int _
    rw [Int.zero_add, Int.toNat_natCast]
  rw [ed] at ec
  have e1 : okR ((row.length : Int) - f + 1) = true := okR_of (by omega) (by omega)
  have e2 : ((row.length : Int) - f + 1).toNat = row.length - f + 1 := by omega
  have e3 : few (row.length - f + 1) = true := few_of (by omega)
  exact .ret (d := .tuple (iL (csL f row))) (c1 := (0, 0)) (by simp [e1, e2, rngL_len, e3, ec]) rfl
end
theorem F_l_truly_eq {a b : Bool} : F_l_truly [.bool a, .bool b] = some (.bool (a == b)) := by
  refine bodyP_of rfl ?_
  unfold S_l_truly
  have e1 : isB .bool (.bool a) = true := rfl
  have e2 : eqD (.bool a) (.bool b) = some (.bool (a == b)) := by
    have hs : ∀ a : Bool, SeqAt.shaped (.bool a) = true := fun a => by cases a <;> rfl
    unfold eqD
    rw [if_pos ⟨hs a, hs b⟩]
    simp [PyData.eqv]
  exact .ret (c1 := (0, 0)) (by simp [e1, e2]) rfl
end X
namespace X
open PySem PySem.Spec L2 DL DM
/-- what may be given as a place -/
def PlD (P : Nat) (d : D) : Prop := (∃ p : Nat, p < P ∧ d = .int p) ∨ (btw 0 ((P : Int) - 1) d = false ∧ ((∃ i : Int, d = .int i ∧ -1 ≤ i ∧ i ≤ P) ∨ d = .none ∨ (∃ b, d = .bool b) ∨ d = .str "0"))
/-- a drawn deed -/
def Deed (P : Nat) (d : D) : Prop := d = .tuple [.str "turn"] ∨ (∃ x y, PlD P x ∧ PlD P y ∧ d = .tuple [.str "exchange", x, y]) ∨ ∃ w : Str, (w = "put" ∨ w = "take") ∧ ∃ x, PlD P x ∧ d = .tuple [.str w, x]
theorem mul8 {x : D} : mulD (.list [x]) (.int 8) = some (.list [x, x, x, x, x, x, x, x]) := rfl
theorem F_l_a_deed_eq {P : Nat} {c : Dr} (hP : 1 ≤ P) (hP2 : P ≤ 24) (hc : OkDr c) : ∃ d c', F_l_a_deed [.int (P : Int)] c = some (d, c') ∧ Deed P d ∧ OkDr c' := by
  have f0 : few 1 = true := by decide
  have f2 : few 2 = true := by decide
  have f3 : few 3 = true := by decide
  have f4 : few 4 = true := by decide
  have f12 : few (8 + 4) = true := by decide
  have pl : ∀ {r : Int}, 0 ≤ r → r < (P : Int) → PlD P (.int r) := fun {r} a b => .inl ⟨r.toNat, by omega, by rw [show ((r.toNat : Nat) : Int) = r by omega]⟩
  have neg : PlD P (.int (-1)) := .inr ⟨by simp [btw], .inl ⟨-1, rfl, by omega, by omega⟩⟩
  have top : PlD P (.int (P : Int)) := .inr ⟨by simp [btw]; omega, .inl ⟨P, rfl, by omega, by omega⟩⟩
  obtain ⟨_, c1, e1, r1, rfl, r10, r11, ok1⟩ := F_l_draw_eq (m := (P : Int)) (by omega) (by omega) hc
  obtain ⟨x, c2, e2, hx, ok2⟩ := F_l_of_eq (ds := [.int r1, .int r1, .int r1, .int r1, .int r1, .int r1, .int r1, .int r1, .int (-1), .int (P : Int), .none, .bool true]) (c := c1) (by simp) (by simp) ok1
  have px : PlD P x := by
    simp only [List.mem_cons, List.not_mem_nil, or_false, or_self] at hx
    rcases hx with h | h | h | h | h | h | h | h | h | h | h | h
    all_goals first
      | (rw [h]; exact pl r10 r11)
      | (rw [h]; exact neg)
      | (rw [h]; exact top)
      | (rw [h]; exact .inr ⟨rfl, .inr (.inl rfl)⟩)
      | (rw [h]; exact .inr ⟨rfl, .inr (.inr (.inl ⟨_, rfl⟩))⟩)
  obtain ⟨_, c3, e3, r3, rfl, r30, r31, ok3⟩ := F_l_draw_eq (m := (P : Int)) (by omega) (by omega) ok2
  obtain ⟨y, c4, e4, hy, ok4⟩ := F_l_of_eq (ds := [.int r3, .int r3, .int r3, .int r3, .int r3, .int r3, .int r3, .int r3, .int (-1), .int (P : Int), .str "0", .bool false]) (c := c3) (by simp) (by simp) ok3
  have py : PlD P y := by
    simp only [List.mem_cons, List.not_mem_nil, or_false, or_self] at hy
    rcases hy with h | h | h | h | h | h | h | h | h | h | h | h
    all_goals first
      | (rw [h]; exact pl r30 r31)
      | (rw [h]; exact neg)
      | (rw [h]; exact top)
      | (rw [h]; exact .inr ⟨rfl, .inr (.inr (.inr rfl))⟩)
      | (rw [h]; exact .inr ⟨rfl, .inr (.inr (.inl ⟨_, rfl⟩))⟩)
  obtain ⟨_, c5, e5, w, rfl, w0, w1, ok5⟩ := F_l_draw_eq (m := 7) (by decide) (by decide) ok4
  refine bodyD_of (P := fun d c' => Deed P d ∧ OkDr c') rfl ?_
  unfold S_l_a_deed
  have n1 : negD (.int 1) = some (.int (-1)) := rfl
  refine .seq (ρ1 := [.dr, .im (.int (P : Int)), .im x, .un, .un]) (c1 := c2) ?_ (.seq (ρ1 := [.dr, .im (.int (P : Int)), .im x, .im y, .un]) (c1 := c4) ?_ (.seq (ρ1 := [.dr, .im (.int (P : Int)), .im x, .im y, .im (.int w)]) (c1 := c5) ?_ ?_))
  · simp only [List.map_cons, List.map_nil, List.cons_append, List.nil_append, List.replicate_succ, List.replicate_zero, ev_sAsg, ev_sCallD, ev_sCons, ev_sNil, ev_sOp, ev_sLst, ev_sUn, ev_sC, ev_sV, List.getElem?_cons_succ, List.getElem?_cons_zero, Option.bind_some, e1, List.length_cons, List.length_nil, Nat.zero_add, f0, f4, if_true, mul8, n1, ev_addLL, f12, List.cons_append, List.nil_append, e2, ev_qN, List.set_cons_succ, List.set_cons_zero]
  · simp only [ev_sAsg, ev_sCallD, ev_sCons, ev_sNil, ev_sOp, ev_sLst, ev_sUn, ev_sC, ev_sV, List.getElem?_cons_succ, List.getElem?_cons_zero, Option.bind_some, e3, List.length_cons, List.length_nil, Nat.zero_add, f0, f4, if_true, mul8, n1, ev_addLL, f12, List.cons_append, List.nil_append, e4, ev_qN, List.set_cons_succ, List.set_cons_zero]
  · simp only [ev_sAsg, ev_sCallD, ev_sCons, ev_sNil, ev_sC, List.getElem?_cons_succ, List.getElem?_cons_zero, Option.bind_some, e5, ev_qN, List.set_cons_succ, List.set_cons_zero]
  by_cases h0 : w = 0
  · refine ⟨(.rt (.tuple [.str "turn"]), [.dr, .im (.int (P : Int)), .im x, .im y, .im (.int w)], c5), ?_, _, rfl, .inl rfl, ok5⟩
    refine seq_rt (DL.ifT (c1 := c5) ?_ (ret_run (c1 := c5) ?_))
    · simp only [ev_sB, ev_sOp, ev_sV, ev_sC, List.getElem?_cons_succ, List.getElem?_cons_zero, Option.bind_some, eqD_int, decide_eq_true h0]
    · simp only [ev_sTup, ev_sCons, ev_sNil, ev_sC, Option.bind_some, List.length_cons, List.length_nil, Nat.zero_add, f0, if_true]
  · refine .pass (c1 := c5) ?_ ?_
    · simp only [ev_sB, ev_sOp, ev_sV, ev_sC, List.getElem?_cons_succ, List.getElem?_cons_zero, Option.bind_some, eqD_int, decide_eq_false h0]
    by_cases h1 : w = 1
    · refine ⟨_, ret_run (d := .tuple [.str "exchange", x, y]) (c1 := c5) ?_, _, rfl, .inr (.inl ⟨x, y, px, py, rfl⟩), ok5⟩
      simp only [ev_sIfE, ev_sB, ev_sOp, ev_sV, ev_sC, List.getElem?_cons_succ, List.getElem?_cons_zero, Option.bind_some, eqD_int, decide_eq_true h1, if_true, ev_sTup, ev_sCons, ev_sNil, List.length_cons, List.length_nil, Nat.zero_add, f3]
    · obtain ⟨u, hu, hm⟩ : ∃ u : Str, (u = "put" ∨ u = "take") ∧ atI [PyData.str "put", .str "take"] (w % 2) = some (.str u) := by
        rcases (show w % 2 = 0 ∨ w % 2 = 1 by omega) with e | e
        · exact ⟨"put", .inl rfl, by rw [e]; rfl⟩
        · exact ⟨"take", .inr rfl, by rw [e]; rfl⟩
      have em : modD (.int w) (.int 2) = some (.int (w % 2)) := modI (by decide)
      refine ⟨_, ret_run (d := .tuple [.str u, x]) (c1 := c5) ?_, _, rfl, .inr (.inr ⟨u, hu, x, px, rfl⟩), ok5⟩
      simp only [ev_sIfE, ev_sB, ev_sOp, ev_sV, ev_sC, List.getElem?_cons_succ, List.getElem?_cons_zero, Option.bind_some, eqD_int, decide_eq_false h1, Bool.false_eq_true, if_false, ev_sTup, ev_sCons, ev_sNil, ev_sLst, List.length_cons, List.length_nil, Nat.zero_add, f2, if_true, em, ev_ixL, hm]
end X
namespace X
open PySem PySem.Spec L2 DL DM
theorem forS_rt {tg : D → Rho → Option Rho} {body : SS} {d : D} (bad : D → Bool) : ∀ {xs : List D} (st : Nat → Rho) (c : Dr), (∀ i x, xs[i]? = some x → bad x = false → ∃ ρ1, tg x (st i) = some ρ1 ∧ body ρ1 c = some (.nx, st (i + 1), c)) → (∀ i x, xs[i]? = some x → bad x = true → ∃ ρ1 ρ2, tg x (st i) = some ρ1 ∧ body ρ1 c = some (.rt d, ρ2, c)) →
    if xs.all (fun x => !bad x) = true then forS tg body xs (st 0) c = some (.nx, st xs.length, c) else ∃ ρ', forS tg body xs (st 0) c = some (.rt d, ρ', c)
  | [], st, c, _, _ => rfl
  | x :: xs, st, c, h1, h2 => by
    rw [List.all_cons]
    cases hb : bad x with
    | true =>
      obtain ⟨ρ1, ρ2, e1, e2⟩ := h2 0 x rfl hb
      refine ⟨ρ2, ?_⟩
      show ((tg x (st 0)).bind fun ρ1 => _) = _
      rw [e1]
      show ((body ρ1 c).bind fun r => _) = _
      rw [e2]; rfl
    | false =>
      obtain ⟨ρ1, e1, e2⟩ := h1 0 x rfl hb
      have ih := forS_rt bad (xs := xs) (d := d) (tg := tg) (body := body) (fun i => st (i + 1)) c (fun i y e => h1 (i + 1) y e) (fun i y e => h2 (i + 1) y e)
      have go : forS tg body (x :: xs) (st 0) c = forS tg body xs (st 1) c := by
        show ((tg x (st 0)).bind fun ρ1 => _) = _
        rw [e1]
        show ((body ρ1 c).bind fun r => _) = _
        rw [e2]; rfl
      rw [Bool.not_false, Bool.true_and, go]
      exact ih
/-! told frames -/
/-- a deed -/
inductive Dd where
  | turn
  | exch (x y : D)
  | put (x : D)
  | take (x : D)
def Dd.toD : Dd → D
  | .turn => .tuple [.str "turn"]
  | .exch x y => .tuple [.str "exchange", x, y]
  | .put x => .tuple [.str "put", x]
  | .take x => .tuple [.str "take", x]
/-- a place's number -/
def good (P : Nat) : D → Option Nat
  | .int i => if 0 ≤ i ∧ i < P then some i.toNat else none
  | _ => none
theorem good_btw {P : Nat} {d : D} : btw 0 ((P : Int) - 1) d = (good P d).isSome := by
  cases d with
  | int i =>
    show (decide (0 ≤ i) && decide (i ≤ (P : Int) - 1)) = (if 0 ≤ i ∧ i < P then some i.toNat else none).isSome
    by_cases h : 0 ≤ i ∧ i < P
    · rw [if_pos h, decide_eq_true h.1, decide_eq_true (by omega)]; rfl
    · rw [if_neg h]
      by_cases h2 : 0 ≤ i
      · rw [decide_eq_true h2, decide_eq_false (by omega)]; rfl
      · rw [decide_eq_false h2]; rfl
  | _ => rfl
theorem good_some {P p : Nat} {d : D} (h : good P d = some p) : d = .int p ∧ p < P := by
  cases d with
  | int i =>
    have h : (if 0 ≤ i ∧ i < P then some i.toNat else none) = some p := h
    split at h
    · cases h
      exact ⟨by congr 1; omega, by omega⟩
    · cases h
  | _ => cases h
/-- what comes of a deed -/
inductive Out where
  | there (row : List Int)
  | no
  | full (p : Nat)
  | empty (p : Nat)
def Out.toD : Out → D
  | .there row => .tuple [.str "there", .tuple (iL row)]
  | .no => .tuple [.str "FormError NoPlace +"]
  | .full p => .tuple [.str "Full NowError +", .int p]
  | .empty p => .tuple [.str "Empty NowError +", .int p]
def due (cap : Int) (row : List Int) : Dd → Out
  | .turn => .there row.reverse
  | .exch x y => match good row.length x, good row.length y with
    | some p, some q => .there ((row.set p (gI row q)).set q (gI row p))
    | _, _ => .no
  | .put x => match good row.length x with
    | some p => if gI row p = cap then .full p else .there (row.set p (gI row p + 1))
    | none => .no
  | .take x => match good row.length x with
    | some p => if gI row p = 0 then .empty p else .there (row.set p (gI row p - 1))
    | none => .no
end X
namespace X
open PySem PySem.Spec L2 DL DM
theorem cut_from {α : Type} {xs : List α} {n : Nat} (h : n ≤ xs.length) : cutL xs (some (n : Int)) none = xs.drop n := by
  unfold cutL
  rw [HT.sIx_nat, Nat.min_eq_left h]
  show (xs.drop n).take (xs.length - n) = _
  rw [List.take_of_length_le (by rw [List.length_drop]; exact Nat.le_refl _)]
theorem pln_str {n : Nat} {a : Str} (h : (PyData.str a).canLay0 = true) : Pln n (.str a) := ⟨by simpa [nob] using h, by simp [PyData.depth]⟩
theorem eqD_str {a b : Str} (ha : (PyData.str a).canLay0 = true) (hb : (PyData.str b).canLay0 = true) : eqD (.str a) (.str b) = some (.bool (decide (a = b))) := by
  classical
  rw [eqD_of (n := 0) (pln_str ha) (pln_str hb) (by decide)]
  by_cases h : a = b
  · subst h; simp
  · simp [h]
def stB (cap : Int) (row : List Int) (d : D) (w : Str) (xs : List Int) (s5 : Sl) : Rho := [.im (.int cap), .im (.tuple (iL row)), .im d, .im (.str w), .ol (iL xs), s5]
abbrev dueB : SS := sThen [5] (sIfS (sNot (sB (sCall F_l_is_whole (sCons (sV 5) (sCons (sC (.int 0)) (sCons (sOp subD (sCB lenD (sCons (sV 1) sNil)) (sC (.int 1))) sNil))))))
 (sRet (sTup (sCons (sC (.str "FormError NoPlace +")) sNil)))
 sNext)
theorem due_loop {cap : Int} {row : List Int} {w : Str} {ds : List D} {e : D} (he : e = .tuple (.str w :: ds)) :
    if ds.all (fun x => (good row.length x).isSome) = true then sFor (sItT (sSl slD (sV 2) (sP (sC (.int 1))) sNoP)) (qN 5) dueB (stB cap row e w row .un) (0, 0) = some (.nx, stB cap row e w row .un, (0, 0))
    else ∃ ρ', sFor (sItT (sSl slD (sV 2) (sP (sC (.int 1))) sNoP)) (qN 5) dueB (stB cap row e w row .un) (0, 0) = some (.rt (.tuple [.str "FormError NoPlace +"]), ρ', (0, 0)) := by
  subst he
  have f1 : few 1 = true := by decide
  have ct : cutL (PyData.str w :: ds) (some 1) none = ds := by
    have := cut_from (xs := PyData.str w :: ds) (n := 1) (by simp)
    exact this
  have hi : sItT (sSl slD (sV 2) (sP (sC (.int 1))) sNoP) (stB cap row (.tuple (.str w :: ds)) w row .un) (0, 0) = some (ds, (0, 0)) := by
    unfold stB
    simp only [ev_sItT, ev_sSl, ev_sP, ev_sNoP, ev_sV, ev_sC, List.getElem?_cons_succ, List.getElem?_cons_zero, Option.bind_some, ev_slT, ct]
  have tst : ∀ x, sNot (sB (sCall F_l_is_whole (sCons (sV 5) (sCons (sC (.int 0)) (sCons (sOp subD (sCB lenD (sCons (sV 1) sNil)) (sC (.int 1))) sNil))))) (stB cap row (.tuple (.str w :: ds)) w row (.im x)) (0, 0) = some (!(good row.length x).isSome, (0, 0)) := fun x => by
    unfold stB
    simp only [ev_sNot, ev_sB, ev_sCall, ev_sCons, ev_sNil, ev_sV, ev_sC, ev_sOp, ev_sCB, List.getElem?_cons_succ, List.getElem?_cons_zero, Option.bind_some, ev_lenT, iL_len, ev_subII, F_l_is_whole_eq, good_btw]
  have run := forS_rt (tg := qN 5) (body := dueB) (d := .tuple [.str "FormError NoPlace +"]) (fun x => !(good row.length x).isSome) (xs := ds) (fun _ => stB cap row (.tuple (.str w :: ds)) w row .un) (0, 0) (fun i x _ hb => by
    refine ⟨_, rfl, then_run (ρ1 := stB cap row (.tuple (.str w :: ds)) w row (.im x)) (DL.ifF (c1 := (0, 0)) ?_ rfl) rfl⟩
    have := tst x
    rw [hb] at this
    exact this) (fun i x _ hb => by
    refine ⟨_, _, rfl, then_rt (DL.ifT (c1 := (0, 0)) (f := sRet (sTup (sCons (sC (.str "FormError NoPlace +")) sNil))) ?_ (ret_run (c1 := (0, 0)) ?_))⟩
    · have := tst x
      rw [hb] at this
      exact this
    · simp only [ev_sTup, ev_sCons, ev_sNil, ev_sC, Option.bind_some, List.length_cons, List.length_nil, Nat.zero_add, f1, if_true])
  have e2 : (fun x => !!(good row.length x).isSome) = fun x : D => (good row.length x).isSome := by funext x; rw [Bool.not_not]
  unfold sFor
  rw [hi]
  rw [e2] at run
  exact run
end X
namespace X
open PySem PySem.Spec L2 DL DM
theorem lay_turn : (PyData.str "turn").canLay0 = true := by decide +kernel
theorem lay_exch : (PyData.str "exchange").canLay0 = true := by decide +kernel
theorem lay_put : (PyData.str "put").canLay0 = true := by decide +kernel
theorem lay_take : (PyData.str "take").canLay0 = true := by decide +kernel
/-- the word asked -/
theorem word_t {cap : Int} {row xs : List Int} {d : D} {w u : Str} {s5 : Sl} (hw : (PyData.str w).canLay0 = true) (hu : (PyData.str u).canLay0 = true) : sB (sOp eqD (sV 3) (sC (.str u))) (stB cap row d w xs s5) (0, 0) = some (decide (w = u), (0, 0)) := by
  unfold stB
  simp only [ev_sB, ev_sOp, ev_sV, ev_sC, List.getElem?_cons_succ, List.getElem?_cons_zero, Option.bind_some, eqD_str hw hu]
theorem due_no {cap : Int} {row : List Int} {w : Str} {ds : List D} (h : ds.all (fun x => (good row.length x).isSome) = false) : F_l_bench_due [.int cap, .tuple (iL row), .tuple (.str w :: ds)] = some (.tuple [.str "FormError NoPlace +"]) := by
  refine bodyP_of rfl ?_
  unfold S_l_bench_due
  have lp := due_loop (cap := cap) (row := row) (w := w) (ds := ds) rfl
  rw [h, if_neg (by decide)] at lp
  obtain ⟨ρ', e⟩ := lp
  refine .seq (ρ1 := stB cap row (.tuple (.str w :: ds)) w row .un) (c1 := (0, 0)) ?_ ⟨_, seq_rt e, rfl⟩
  unfold stB
  have : atI (PyData.str w :: ds) 0 = some (.str w) := atI_nat (j := 0) rfl
  simp only [List.map_cons, List.map_nil, List.cons_append, List.nil_append, List.replicate_succ, List.replicate_zero, ev_sMany, ev_sAvP, ev_sAvF, ev_sAvNil, ev_sOp, ev_sV, ev_sC, ev_sListOf, ev_sCons, ev_sNil, List.getElem?_cons_succ, List.getElem?_cons_zero, Option.bind_some, ev_ixT, this, List.length_cons, List.length_nil, if_true, ev_setAv, ev_setAv0, ev_slP, ev_slF, List.set_cons_succ, List.set_cons_zero]
theorem due_turn {cap : Int} {row : List Int} (hl : row.length ≤ 1000) : F_l_bench_due [.int cap, .tuple (iL row), .tuple [.str "turn"]] = some (.tuple [.str "there", .tuple (iL row.reverse)]) := by
  refine bodyP_of rfl ?_
  unfold S_l_bench_due
  have lp := due_loop (cap := cap) (row := row) (w := "turn") (ds := []) rfl
  rw [if_pos (show ([] : List D).all (fun x => (good row.length x).isSome) = true from rfl)] at lp
  have f2 : few 2 = true := by decide
  refine .seq (ρ1 := stB cap row (.tuple [.str "turn"]) "turn" row .un) (c1 := (0, 0)) ?_ (.seq lp ⟨_, seq_rt (DL.ifT (c1 := (0, 0)) ?_ (ret_run (d := .tuple [.str "there", .tuple (iL row.reverse)]) (c1 := (0, 0)) ?_)), rfl⟩)
  · unfold stB
    have : atI [PyData.str "turn"] 0 = some (.str "turn") := atI_nat (j := 0) rfl
    simp only [List.map_cons, List.map_nil, List.cons_append, List.nil_append, List.replicate_succ, List.replicate_zero, ev_sMany, ev_sAvP, ev_sAvF, ev_sAvNil, ev_sOp, ev_sV, ev_sC, ev_sListOf, ev_sCons, ev_sNil, List.getElem?_cons_succ, List.getElem?_cons_zero, Option.bind_some, ev_ixT, this, List.length_cons, List.length_nil, if_true, ev_setAv, ev_setAv0, ev_slP, ev_slF, List.set_cons_succ, List.set_cons_zero]
  · rw [word_t lay_turn lay_turn]
    simp
  · unfold stB sRevA
    have fr : few row.length = true := few_of (by omega)
    have er : (iL row).reverse = iL row.reverse := by unfold iL; rw [List.map_reverse]
    simp [fr, er, f2]
end X
namespace X
open PySem PySem.Spec L2 DL DM
theorem iL_set' {xs : List Int} {i : Nat} {x : Int} : (iL xs).set i (.int x) = iL (xs.set i x) := by unfold iL; rw [List.map_set]
theorem due_start {cap : Int} {row : List Int} {w : Str} {ds : List D} {d : D} (h : ds.all (fun x => (good row.length x).isSome) = true) {g : SS} (hg : S_l_bench_due = sSeq (sMany [3, 4] (sAvP (sOp ixD (sV 2) (sC (.int 0))) (sAvF (sListOf (sCons (sV 1) sNil)) sAvNil))) (sSeq (sFor (sItT (sSl slD (sV 2) (sP (sC (.int 1))) sNoP)) (qN 5) dueB) g))
    (r : DL.Runs g (stB cap row (.tuple (.str w :: ds)) w row .un) (0, 0) (IsRt d)) : F_l_bench_due [.int cap, .tuple (iL row), .tuple (.str w :: ds)] = some d := by
  refine bodyP_of rfl ?_
  rw [hg]
  have lp := due_loop (cap := cap) (row := row) (w := w) (ds := ds) rfl
  rw [if_pos h] at lp
  refine .seq (ρ1 := stB cap row (.tuple (.str w :: ds)) w row .un) (c1 := (0, 0)) ?_ (.seq lp r)
  unfold stB
  have : atI (PyData.str w :: ds) 0 = some (.str w) := atI_nat (j := 0) rfl
  simp only [List.map_cons, List.map_nil, List.cons_append, List.nil_append, List.replicate_succ, List.replicate_zero, ev_sMany, ev_sAvP, ev_sAvF, ev_sAvNil, ev_sOp, ev_sV, ev_sC, ev_sListOf, ev_sCons, ev_sNil, List.getElem?_cons_succ, List.getElem?_cons_zero, Option.bind_some, ev_ixT, this, List.length_cons, List.length_nil, if_true, ev_setAv, ev_setAv0, ev_slP, ev_slF, List.set_cons_succ, List.set_cons_zero]
theorem good_nat {P p : Nat} (h : p < P) : good P (.int (p : Int)) = some p := by
  show (if 0 ≤ (p : Int) ∧ (p : Int) < P then some (p : Int).toNat else none) = some p
  rw [if_pos ⟨by omega, by omega⟩, Int.toNat_natCast]
theorem due_exch {cap : Int} {row : List Int} {p q : Nat} (hl : row.length ≤ 1000) (hp : p < row.length) (hq : q < row.length) : F_l_bench_due [.int cap, .tuple (iL row), .tuple [.str "exchange", .int (p : Int), .int (q : Int)]] = some (.tuple [.str "there", .tuple (iL ((row.set p (gI row q)).set q (gI row p)))]) := by
  have f2 : few 2 = true := by decide
  have n1 : ("exchange" : Str) ≠ "turn" := by decide
  refine due_start (by simp [good_nat hp, good_nat hq]) rfl ?_
  have a1 : atI [PyData.str "exchange", .int (p : Int), .int (q : Int)] 1 = some (.int (p : Int)) := atI_nat (j := 1) rfl
  have a2 : atI [PyData.str "exchange", .int (p : Int), .int (q : Int)] 2 = some (.int (q : Int)) := atI_nat (j := 2) rfl
  have g1 : atI (iL row) (p : Int) = some (.int (gI row p)) := atI_iL hp
  have g2 : atI (iL row) (q : Int) = some (.int (gI row q)) := atI_iL hq
  have x1 : ixN (iL row).length (p : Int) = some p := ixN_nat (by rw [iL_len]; exact hp)
  have x2 : ixN (iL (row.set p (gI row q))).length (q : Int) = some q := ixN_nat (by rw [iL_len, List.length_set]; exact hq)
  have sw : EX.sSwap 4 (sOp ixD (sV 2) (sC (.int 1))) (sOp ixD (sV 2) (sC (.int 2))) (sIxO 4 (sOp ixD (sV 2) (sC (.int 2)))) (sIxO 4 (sOp ixD (sV 2) (sC (.int 1)))) (stB cap row (.tuple [.str "exchange", .int (p : Int), .int (q : Int)]) "exchange" row .un) (0, 0) =
      some (.nx, stB cap row (.tuple [.str "exchange", .int (p : Int), .int (q : Int)]) "exchange" ((row.set p (gI row q)).set q (gI row p)) .un, (0, 0)) := by
    unfold EX.sSwap EX.putI stB
    simp only [ev_sIxO, ev_sOp, ev_sV, ev_sC, List.getElem?_cons_succ, List.getElem?_cons_zero, Option.bind_some, ev_ixT, a1, a2, g1, g2, x1, iL_set', List.set_cons_succ, List.set_cons_zero, x2]
  refine .pass (c1 := (0, 0)) (by rw [word_t lay_exch lay_turn, decide_eq_false n1]) ⟨_, seq_rt (DL.ifT (c1 := (0, 0)) (by rw [word_t lay_exch lay_exch, decide_eq_true rfl]) (seq_run sw (frz_run rfl (ret_run (d := .tuple [.str "there", .tuple (iL ((row.set p (gI row q)).set q (gI row p)))]) (c1 := (0, 0)) ?_)))), rfl⟩
  unfold stB
  simp only [ev_sTup, ev_sCons, ev_sNil, ev_sC, ev_sCB, ev_sV, List.set_cons_succ, List.set_cons_zero, List.getElem?_cons_succ, List.getElem?_cons_zero, Option.bind_some, ev_tupL, List.length_cons, List.length_nil, Nat.zero_add, f2, if_true]
end X
namespace X
open PySem PySem.Spec L2 DL DM
section
variable {cap : Int} {row : List Int} {p : Nat}
theorem there_run {w : Str} {d : D} {xs : List Int} {s5 : Sl} : sFrz 4 (sRet (sTup (sCons (sC (.str "there")) (sCons (sCB tupleD (sCons (sV 4) sNil)) sNil)))) (stB cap row d w xs s5) (0, 0) = some (.rt (.tuple [.str "there", .tuple (iL xs)]), [.im (.int cap), .im (.tuple (iL row)), .im d, .im (.str w), .im (.list (iL xs)), s5], (0, 0)) := by
  have f2 : few 2 = true := by decide
  refine frz_run rfl (ret_run (c1 := (0, 0)) ?_)
  unfold stB
  simp only [ev_sTup, ev_sCons, ev_sNil, ev_sC, ev_sCB, ev_sV, List.set_cons_succ, List.set_cons_zero, List.getElem?_cons_succ, List.getElem?_cons_zero, Option.bind_some, ev_tupL, List.length_cons, List.length_nil, Nat.zero_add, f2, if_true]
theorem due_put (hl : row.length ≤ 1000) (hp : p < row.length) : F_l_bench_due [.int cap, .tuple (iL row), .tuple [.str "put", .int (p : Int)]] = some (if gI row p = cap then .tuple [.str "Full NowError +", .int (p : Int)] else .tuple [.str "there", .tuple (iL (row.set p (gI row p + 1)))]) := by
  have f2 : few 2 = true := by decide
  have n1 : ("put" : Str) ≠ "turn" := by decide
  have n2 : ("put" : Str) ≠ "exchange" := by decide
  have n3 : ("put" : Str) ≠ "take" := by decide
  refine due_start (by simp [good_nat hp]) rfl ?_
  have a1 : atI [PyData.str "put", .int (p : Int)] 1 = some (.int (p : Int)) := atI_nat (j := 1) rfl
  have g1 : atI (iL row) (p : Int) = some (.int (gI row p)) := atI_iL hp
  have x1 : ixN (iL row).length (p : Int) = some p := ixN_nat (by rw [iL_len]; exact hp)
  refine .pass (c1 := (0, 0)) (by rw [word_t lay_put lay_turn, decide_eq_false n1]) (.pass (c1 := (0, 0)) (by rw [word_t lay_put lay_exch, decide_eq_false n2]) ?_)
  have t3 : sAnd (sB (sOp eqD (sV 3) (sC (.str "put")))) (sB (sOp eqD (sOp ixD (sV 1) (sOp ixD (sV 2) (sC (.int 1)))) (sV 0))) (stB cap row (.tuple [.str "put", .int (p : Int)]) "put" row .un) (0, 0) = some (decide (gI row p = cap), (0, 0)) := by
    rw [ev_sAnd, word_t lay_put lay_put, decide_eq_true rfl]
    unfold stB
    simp only [Option.bind_some, if_true, ev_sB, ev_sOp, ev_sV, ev_sC, List.getElem?_cons_succ, List.getElem?_cons_zero, ev_ixT, a1, g1, eqD_int]
  by_cases h : gI row p = cap
  · rw [if_pos h]
    rw [decide_eq_true h] at t3
    refine ⟨_, seq_rt (DL.ifT t3 (ret_run (d := .tuple [.str "Full NowError +", .int (p : Int)]) (c1 := (0, 0)) ?_)), rfl⟩
    unfold stB
    simp only [ev_sTup, ev_sCons, ev_sNil, ev_sC, ev_sOp, ev_sV, List.getElem?_cons_succ, List.getElem?_cons_zero, Option.bind_some, ev_ixT, a1, List.length_cons, List.length_nil, Nat.zero_add, f2, if_true]
  · rw [if_neg h]
    rw [decide_eq_false h] at t3
    refine .pass t3 (.pass (c1 := (0, 0)) ?_ (.seq (ρ1 := stB cap row (.tuple [.str "put", .int (p : Int)]) "put" (row.set p (gI row p + 1)) .un) (c1 := (0, 0)) ?_ ⟨_, there_run, rfl⟩))
    · rw [ev_sAnd, word_t lay_put lay_take, decide_eq_false n3]; rfl
    · have wt := word_t (cap := cap) (row := row) (xs := row) (d := .tuple [.str "put", .int (p : Int)]) (s5 := .un) lay_put lay_put
      rw [decide_eq_true rfl] at wt
      unfold stB at wt ⊢
      simp only [ev_sSetI, ev_sOp, ev_sIxO, ev_sV, ev_sC, ev_sIfE, wt, List.getElem?_cons_succ, List.getElem?_cons_zero, Option.bind_some, ev_ixT, a1, g1, if_true, ev_addII, x1, iL_set', List.set_cons_succ, List.set_cons_zero]
theorem due_take (hl : row.length ≤ 1000) (hp : p < row.length) : F_l_bench_due [.int cap, .tuple (iL row), .tuple [.str "take", .int (p : Int)]] = some (if gI row p = 0 then .tuple [.str "Empty NowError +", .int (p : Int)] else .tuple [.str "there", .tuple (iL (row.set p (gI row p - 1)))]) := by
  have f2 : few 2 = true := by decide
  have n1 : ("take" : Str) ≠ "turn" := by decide
  have n2 : ("take" : Str) ≠ "exchange" := by decide
  have n3 : ("take" : Str) ≠ "put" := by decide
  refine due_start (by simp [good_nat hp]) rfl ?_
  have a1 : atI [PyData.str "take", .int (p : Int)] 1 = some (.int (p : Int)) := atI_nat (j := 1) rfl
  have g1 : atI (iL row) (p : Int) = some (.int (gI row p)) := atI_iL hp
  have x1 : ixN (iL row).length (p : Int) = some p := ixN_nat (by rw [iL_len]; exact hp)
  have neg1 : negD (.int 1) = some (.int (-1)) := rfl
  refine .pass (c1 := (0, 0)) (by rw [word_t lay_take lay_turn, decide_eq_false n1]) (.pass (c1 := (0, 0)) (by rw [word_t lay_take lay_exch, decide_eq_false n2]) (.pass (c1 := (0, 0)) (by rw [ev_sAnd, word_t lay_take lay_put, decide_eq_false n3]; rfl) ?_))
  have t3 : sAnd (sB (sOp eqD (sV 3) (sC (.str "take")))) (sB (sOp eqD (sOp ixD (sV 1) (sOp ixD (sV 2) (sC (.int 1)))) (sC (.int 0)))) (stB cap row (.tuple [.str "take", .int (p : Int)]) "take" row .un) (0, 0) = some (decide (gI row p = 0), (0, 0)) := by
    rw [ev_sAnd, word_t lay_take lay_take, decide_eq_true rfl]
    unfold stB
    simp only [Option.bind_some, if_true, ev_sB, ev_sOp, ev_sV, ev_sC, List.getElem?_cons_succ, List.getElem?_cons_zero, ev_ixT, a1, g1, eqD_int]
  by_cases h : gI row p = 0
  · rw [if_pos h]
    rw [decide_eq_true h] at t3
    refine ⟨_, seq_rt (DL.ifT t3 (ret_run (d := .tuple [.str "Empty NowError +", .int (p : Int)]) (c1 := (0, 0)) ?_)), rfl⟩
    unfold stB
    simp only [ev_sTup, ev_sCons, ev_sNil, ev_sC, ev_sOp, ev_sV, List.getElem?_cons_succ, List.getElem?_cons_zero, Option.bind_some, ev_ixT, a1, List.length_cons, List.length_nil, Nat.zero_add, f2, if_true]
  · rw [if_neg h]
    rw [decide_eq_false h] at t3
    refine .pass t3 (.seq (ρ1 := stB cap row (.tuple [.str "take", .int (p : Int)]) "take" (row.set p (gI row p - 1)) .un) (c1 := (0, 0)) ?_ ⟨_, there_run, rfl⟩)
    have wt := word_t (cap := cap) (row := row) (xs := row) (d := .tuple [.str "take", .int (p : Int)]) (s5 := .un) lay_take lay_put
    rw [decide_eq_false n3] at wt
    unfold stB at wt ⊢
    simp only [ev_sSetI, ev_sOp, ev_sIxO, ev_sV, ev_sC, ev_sIfE, ev_sUn, neg1, wt, List.getElem?_cons_succ, List.getElem?_cons_zero, Option.bind_some, ev_ixT, a1, g1, Bool.false_eq_true, if_false, ev_addII, x1, iL_set', List.set_cons_succ, List.set_cons_zero]
    rfl
end
end X
namespace X
open PySem PySem.Spec L2 DL DM
theorem F_l_bench_due_eq {cap : Int} {row : List Int} (hl : row.length ≤ 1000) (e : Dd) : F_l_bench_due [.int cap, .tuple (iL row), e.toD] = some (due cap row e).toD := by
  cases e with
  | turn => exact due_turn hl
  | exch x y =>
    show F_l_bench_due [.int cap, .tuple (iL row), .tuple [.str "exchange", x, y]] = some (Out.toD (match good row.length x, good row.length y with | some p, some q => .there ((row.set p (gI row q)).set q (gI row p)) | _, _ => .no))
    cases hx : good row.length x with
    | none => exact due_no (by simp [hx])
    | some p =>
      cases hy : good row.length y with
      | none => exact due_no (by simp [hx, hy])
      | some q =>
        obtain ⟨rfl, h1⟩ := good_some hx
        obtain ⟨rfl, h2⟩ := good_some hy
        exact due_exch hl h1 h2
  | put x =>
    show F_l_bench_due [.int cap, .tuple (iL row), .tuple [.str "put", x]] = some (Out.toD (match good row.length x with | some p => if gI row p = cap then .full p else .there (row.set p (gI row p + 1)) | none => .no))
    cases hx : good row.length x with
    | none => exact due_no (by simp [hx])
    | some p =>
      obtain ⟨rfl, h1⟩ := good_some hx
      rw [due_put hl h1]
      show some (if gI row p = cap then _ else _) = some (Out.toD (if gI row p = cap then _ else _))
      split <;> rfl
  | take x =>
    show F_l_bench_due [.int cap, .tuple (iL row), .tuple [.str "take", x]] = some (Out.toD (match good row.length x with | some p => if gI row p = 0 then .empty p else .there (row.set p (gI row p - 1)) | none => .no))
    cases hx : good row.length x with
    | none => exact due_no (by simp [hx])
    | some p =>
      obtain ⟨rfl, h1⟩ := good_some hx
      rw [due_take hl h1]
      show some (if gI row p = 0 then _ else _) = some (Out.toD (if gI row p = 0 then _ else _))
      split <;> rfl
end X
namespace X
open PySem PySem.Spec PyProof.Rows L2 DL DM EX

abbrev sb_init : Stmt := inClass (topS 19) 0
abbrev Nb_init : List Str := ["self", "cap", "row"]
theorem sc_b_init : FnScope Nb_init ["self", "cap", "row"] (defScope sb_init) := ⟨rfl, rfl, rfl, by decide +kernel, rfl, by decide +kernel, by decide +kernel⟩
abbrev sb_len : Stmt := inClass (topS 19) 1
abbrev Nb_len : List Str := ["self"]
theorem sc_b_len : FnScope Nb_len ["self"] (defScope sb_len) := ⟨rfl, rfl, rfl, by decide +kernel, rfl, by decide +kernel, by decide +kernel⟩
abbrev sb_eq : Stmt := inClass (topS 19) 2
abbrev Nb_eq : List Str := ["self", "other"]
theorem sc_b_eq : FnScope Nb_eq ["self", "other"] (defScope sb_eq) := ⟨rfl, rfl, rfl, by decide +kernel, rfl, by decide +kernel, by decide +kernel⟩
abbrev sb_keep : Stmt := inClass (topS 19) 3
abbrev Nb_keep : List Str := ["self", "row"]
theorem sc_b_keep : FnScope Nb_keep ["self", "row"] (defScope sb_keep) := ⟨rfl, rfl, rfl, by decide +kernel, rfl, by decide +kernel, by decide +kernel⟩
abbrev sb_need_place : Stmt := inClass (topS 19) 4
abbrev Nb_need_place : List Str := ["self", "place"]
theorem sc_b_need_place : FnScope Nb_need_place ["self", "place"] (defScope sb_need_place) := ⟨rfl, rfl, rfl, by decide +kernel, rfl, by decide +kernel, by decide +kernel⟩
abbrev sb_need_frame : Stmt := inClass (topS 19) 5
abbrev Nb_need_frame : List Str := ["self", "frame"]
theorem sc_b_need_frame : FnScope Nb_need_frame ["self", "frame"] (defScope sb_need_frame) := ⟨rfl, rfl, rfl, by decide +kernel, rfl, by decide +kernel, by decide +kernel⟩
abbrev sb_held : Stmt := inClass (topS 19) 6
abbrev Nb_held : List Str := ["self", "place", "more", "at", "one"]
theorem sc_b_held : FnScope Nb_held ["self", "place", "more"] (defScope sb_held) := ⟨rfl, rfl, rfl, by decide +kernel, rfl, by decide +kernel, by decide +kernel⟩
abbrev sb_put : Stmt := inClass (topS 19) 7
abbrev Nb_put : List Str := ["self", "place"]
theorem sc_b_put : FnScope Nb_put ["self", "place"] (defScope sb_put) := ⟨rfl, rfl, rfl, by decide +kernel, rfl, by decide +kernel, by decide +kernel⟩
abbrev sb_take : Stmt := inClass (topS 19) 8
abbrev Nb_take : List Str := ["self", "place"]
theorem sc_b_take : FnScope Nb_take ["self", "place"] (defScope sb_take) := ⟨rfl, rfl, rfl, by decide +kernel, rfl, by decide +kernel, by decide +kernel⟩
abbrev sb_exchange : Stmt := inClass (topS 19) 9
abbrev Nb_exchange : List Str := ["self", "place", "other", "some"]
theorem sc_b_exchange : FnScope Nb_exchange ["self", "place", "other"] (defScope sb_exchange) := ⟨rfl, rfl, rfl, by decide +kernel, rfl, by decide +kernel, by decide +kernel⟩
abbrev sb_turn : Stmt := inClass (topS 19) 10
abbrev Nb_turn : List Str := ["self"]
theorem sc_b_turn : FnScope Nb_turn ["self"] (defScope sb_turn) := ⟨rfl, rfl, rfl, by decide +kernel, rfl, by decide +kernel, by decide +kernel⟩
abbrev sb_back : Stmt := inClass (topS 19) 11
abbrev Nb_back : List Str := ["self"]
theorem sc_b_back : FnScope Nb_back ["self"] (defScope sb_back) := ⟨rfl, rfl, rfl, by decide +kernel, rfl, by decide +kernel, by decide +kernel⟩
abbrev sb_row : Stmt := inClass (topS 19) 12
abbrev Nb_row : List Str := ["self"]
theorem sc_b_row : FnScope Nb_row ["self"] (defScope sb_row) := ⟨rfl, rfl, rfl, by decide +kernel, rfl, by decide +kernel, by decide +kernel⟩
abbrev sb_counts : Stmt := inClass (topS 19) 13
abbrev Nb_counts : List Str := ["self", "frame"]
theorem sc_b_counts : FnScope Nb_counts ["self", "frame"] (defScope sb_counts) := ⟨rfl, rfl, rfl, by decide +kernel, rfl, by decide +kernel, by decide +kernel⟩
abbrev sb_tells_like : Stmt := inClass (topS 19) 14
abbrev Nb_tells_like : List Str := ["self", "other", "frame"]
theorem sc_b_tells_like : FnScope Nb_tells_like ["self", "other", "frame"] (defScope sb_tells_like) := ⟨rfl, rfl, rfl, by decide +kernel, rfl, by decide +kernel, by decide +kernel⟩
abbrev s_iFull : Stmt := inClass (topS 9) 0
abbrev N_iFull : List Str := ["self", "place"]
theorem sc_iFull : FnScope N_iFull ["self", "place"] (defScope s_iFull) := ⟨rfl, rfl, rfl, by decide +kernel, rfl, by decide +kernel, by decide +kernel⟩
abbrev s_iEmpty : Stmt := inClass (topS 10) 0
abbrev N_iEmpty : List Str := ["self", "place"]
theorem sc_iEmpty : FnScope N_iEmpty ["self", "place"] (defScope s_iEmpty) := ⟨rfl, rfl, rfl, by decide +kernel, rfl, by decide +kernel, by decide +kernel⟩
/-- the class Bench -/
structure TB (K : PySem.W.Frag) (mg : Str → Option Value) where
  C : Addr
  g : mg "Bench" = some (.ref C)
  cl : Cls K C
  nC : NoAttr K C "cap"
  nN : NoAttr K C "now"
  nF : NoAttr K C "former"
  tcap : Tok
  mcap : mg "MOST_CAP" = some (.int 9 tcap)
  f_init : Addr
  d_init : FuncData
  F_init : Fun K "__init__" "Bench.__init__" sb_init f_init d_init
  M_init : Meth K C "__init__" f_init
  f_len : Addr
  d_len : FuncData
  F_len : Fun K "__len__" "Bench.__len__" sb_len f_len d_len
  M_len : Meth K C "__len__" f_len
  f_eq : Addr
  d_eq : FuncData
  F_eq : Fun K "__eq__" "Bench.__eq__" sb_eq f_eq d_eq
  M_eq : Meth K C "__eq__" f_eq
  f_keep : Addr
  d_keep : FuncData
  F_keep : Fun K "keep" "Bench.keep" sb_keep f_keep d_keep
  M_keep : Meth K C "keep" f_keep
  f_need_place : Addr
  d_need_place : FuncData
  F_need_place : Fun K "need_place" "Bench.need_place" sb_need_place f_need_place d_need_place
  M_need_place : Meth K C "need_place" f_need_place
  f_need_frame : Addr
  d_need_frame : FuncData
  F_need_frame : Fun K "need_frame" "Bench.need_frame" sb_need_frame f_need_frame d_need_frame
  M_need_frame : Meth K C "need_frame" f_need_frame
  f_held : Addr
  d_held : FuncData
  F_held : Fun K "held" "Bench.held" sb_held f_held d_held
  M_held : Meth K C "held" f_held
  f_put : Addr
  d_put : FuncData
  F_put : Fun K "put" "Bench.put" sb_put f_put d_put
  M_put : Meth K C "put" f_put
  f_take : Addr
  d_take : FuncData
  F_take : Fun K "take" "Bench.take" sb_take f_take d_take
  M_take : Meth K C "take" f_take
  f_exchange : Addr
  d_exchange : FuncData
  F_exchange : Fun K "exchange" "Bench.exchange" sb_exchange f_exchange d_exchange
  M_exchange : Meth K C "exchange" f_exchange
  f_turn : Addr
  d_turn : FuncData
  F_turn : Fun K "turn" "Bench.turn" sb_turn f_turn d_turn
  M_turn : Meth K C "turn" f_turn
  f_back : Addr
  d_back : FuncData
  F_back : Fun K "back" "Bench.back" sb_back f_back d_back
  M_back : Meth K C "back" f_back
  f_row : Addr
  d_row : FuncData
  F_row : Fun K "row" "Bench.row" sb_row f_row d_row
  M_row : Meth K C "row" f_row
  f_counts : Addr
  d_counts : FuncData
  F_counts : Fun K "counts" "Bench.counts" sb_counts f_counts d_counts
  M_counts : Meth K C "counts" f_counts
  f_tells_like : Addr
  d_tells_like : FuncData
  F_tells_like : Fun K "tells_like" "Bench.tells_like" sb_tells_like f_tells_like d_tells_like
  M_tells_like : Meth K C "tells_like" f_tells_like
  mkB : Mk K C f_init
  sT : PySem.W.subIn K (.type "tuple") (.ref C) = some false
  i : PySem.W.isClsIn K C = true
  t : PySem.W.typeIn K (.ref C) = some (.type "type")
  hne : PySem.W.findIn K (.ref C) "__ne__" = some (some (.builtin "object.__ne__"))
  ha : PySem.W.findIn K (.ref C) "__class__" = some (some (.builtin "object.__class__"))
  hn : PySem.W.specialIn K (.builtin "object.__class__") "__get__" = some (some (.builtin "getset_descriptor.__get__"))
  ht : PySem.W.takesIn K (.builtin "object.__class__") = some true
  hm : PySem.W.mroIn K C (.type "object") = some true
theorem b_b_init {K : PySem.W.Frag} {mg : Str → Option Value} (T : TB K mg) : Binds K T.d_init ["self", "cap", "row"] [] := T.F_init.binds (ps := ["self", "cap", "row"]) fun _ _ _ _ _ _ us hl => match us, hl with | [_, _, _], _ => rfl
theorem b_b_len {K : PySem.W.Frag} {mg : Str → Option Value} (T : TB K mg) : Binds K T.d_len ["self"] [] := T.F_len.binds (ps := ["self"]) fun _ _ _ _ _ _ us hl => match us, hl with | [_], _ => rfl
theorem b_b_eq {K : PySem.W.Frag} {mg : Str → Option Value} (T : TB K mg) : Binds K T.d_eq ["self", "other"] [] := T.F_eq.binds (ps := ["self", "other"]) fun _ _ _ _ _ _ us hl => match us, hl with | [_, _], _ => rfl
theorem b_b_keep {K : PySem.W.Frag} {mg : Str → Option Value} (T : TB K mg) : Binds K T.d_keep ["self", "row"] [] := T.F_keep.binds (ps := ["self", "row"]) fun _ _ _ _ _ _ us hl => match us, hl with | [_, _], _ => rfl
theorem b_b_need_place {K : PySem.W.Frag} {mg : Str → Option Value} (T : TB K mg) : Binds K T.d_need_place ["self", "place"] [] := T.F_need_place.binds (ps := ["self", "place"]) fun _ _ _ _ _ _ us hl => match us, hl with | [_, _], _ => rfl
theorem b_b_need_frame {K : PySem.W.Frag} {mg : Str → Option Value} (T : TB K mg) : Binds K T.d_need_frame ["self", "frame"] [] := T.F_need_frame.binds (ps := ["self", "frame"]) fun _ _ _ _ _ _ us hl => match us, hl with | [_, _], _ => rfl
theorem b_b_held {K : PySem.W.Frag} {mg : Str → Option Value} (T : TB K mg) : Binds K T.d_held ["self", "place", "more"] [] := T.F_held.binds (ps := ["self", "place", "more"]) fun _ _ _ _ _ _ us hl => match us, hl with | [_, _, _], _ => rfl
theorem b_b_put {K : PySem.W.Frag} {mg : Str → Option Value} (T : TB K mg) : Binds K T.d_put ["self", "place"] [] := T.F_put.binds (ps := ["self", "place"]) fun _ _ _ _ _ _ us hl => match us, hl with | [_, _], _ => rfl
theorem b_b_take {K : PySem.W.Frag} {mg : Str → Option Value} (T : TB K mg) : Binds K T.d_take ["self", "place"] [] := T.F_take.binds (ps := ["self", "place"]) fun _ _ _ _ _ _ us hl => match us, hl with | [_, _], _ => rfl
theorem b_b_exchange {K : PySem.W.Frag} {mg : Str → Option Value} (T : TB K mg) : Binds K T.d_exchange ["self", "place", "other"] [] := T.F_exchange.binds (ps := ["self", "place", "other"]) fun _ _ _ _ _ _ us hl => match us, hl with | [_, _, _], _ => rfl
theorem b_b_turn {K : PySem.W.Frag} {mg : Str → Option Value} (T : TB K mg) : Binds K T.d_turn ["self"] [] := T.F_turn.binds (ps := ["self"]) fun _ _ _ _ _ _ us hl => match us, hl with | [_], _ => rfl
theorem b_b_back {K : PySem.W.Frag} {mg : Str → Option Value} (T : TB K mg) : Binds K T.d_back ["self"] [] := T.F_back.binds (ps := ["self"]) fun _ _ _ _ _ _ us hl => match us, hl with | [_], _ => rfl
theorem b_b_row {K : PySem.W.Frag} {mg : Str → Option Value} (T : TB K mg) : Binds K T.d_row ["self"] [] := T.F_row.binds (ps := ["self"]) fun _ _ _ _ _ _ us hl => match us, hl with | [_], _ => rfl
theorem b_b_counts {K : PySem.W.Frag} {mg : Str → Option Value} (T : TB K mg) : Binds K T.d_counts ["self", "frame"] [] := T.F_counts.binds (ps := ["self", "frame"]) fun _ _ _ _ _ _ us hl => match us, hl with | [_, _], _ => rfl
theorem b_b_tells_like {K : PySem.W.Frag} {mg : Str → Option Value} (T : TB K mg) : Binds K T.d_tells_like ["self", "other", "frame"] [] := T.F_tells_like.binds (ps := ["self", "other", "frame"]) fun _ _ _ _ _ _ us hl => match us, hl with | [_, _, _], _ => rfl
/-- the classes that are raised, made -/
structure TR (K : PySem.W.Frag) (mg : Str → Option Value) (U : TC K mg) where
  x_NoCap : PySem.W.excIn K U.C_NoCap [.type "ValueError", .type "Exception", .type "BaseException", .type "object"] "ValueError.__new__" = true
  k_NoCap : PySem.W.keepIn K (.ref U.C_NoCap) = true
  b_NoCap : PySem.W.subIn K (.ref U.C_NoCap) (.type "BaseException") = some true
  x_NoRow : PySem.W.excIn K U.C_NoRow [.type "ValueError", .type "Exception", .type "BaseException", .type "object"] "ValueError.__new__" = true
  k_NoRow : PySem.W.keepIn K (.ref U.C_NoRow) = true
  b_NoRow : PySem.W.subIn K (.ref U.C_NoRow) (.type "BaseException") = some true
  x_NoPlace : PySem.W.excIn K U.C_NoPlace [.type "ValueError", .type "Exception", .type "BaseException", .type "object"] "ValueError.__new__" = true
  k_NoPlace : PySem.W.keepIn K (.ref U.C_NoPlace) = true
  b_NoPlace : PySem.W.subIn K (.ref U.C_NoPlace) (.type "BaseException") = some true
  x_NoFrame : PySem.W.excIn K U.C_NoFrame [.type "ValueError", .type "Exception", .type "BaseException", .type "object"] "ValueError.__new__" = true
  k_NoFrame : PySem.W.keepIn K (.ref U.C_NoFrame) = true
  b_NoFrame : PySem.W.subIn K (.ref U.C_NoFrame) (.type "BaseException") = some true
  x_NothingLeft : PySem.W.excIn K U.C_NothingLeft [.type "ValueError", .type "Exception", .type "BaseException", .type "object"] "ValueError.__new__" = true
  k_NothingLeft : PySem.W.keepIn K (.ref U.C_NothingLeft) = true
  b_NothingLeft : PySem.W.subIn K (.ref U.C_NothingLeft) (.type "BaseException") = some true
  nb : InitBy K U.C_NowError
  o_Full : OexC K U.C_Full
  fi_Full : Addr
  di_Full : FuncData
  FI_Full : Fun K "__init__" "Full.__init__" s_iFull fi_Full di_Full
  ic_Full : PySem.W.findIn K (.ref U.C_Full) "__init__" = some (some (.ref fi_Full))
  ti_Full : PySem.W.typeIn K (.ref fi_Full) = some (.type "function")
  o_Empty : OexC K U.C_Empty
  fi_Empty : Addr
  di_Empty : FuncData
  FI_Empty : Fun K "__init__" "Empty.__init__" s_iEmpty fi_Empty di_Empty
  ic_Empty : PySem.W.findIn K (.ref U.C_Empty) "__init__" = some (some (.ref fi_Empty))
  ti_Empty : PySem.W.typeIn K (.ref fi_Empty) = some (.type "function")
theorem b_iFull {K : PySem.W.Frag} {mg : Str → Option Value} {U : TC K mg} (T : TR K mg U) : Binds K T.di_Full ["self", "place"] [] := T.FI_Full.binds (ps := ["self", "place"]) fun _ _ _ _ _ _ us hl => match us, hl with | [_, _], _ => rfl
theorem b_iEmpty {K : PySem.W.Frag} {mg : Str → Option Value} {U : TC K mg} (T : TR K mg U) : Binds K T.di_Empty ["self", "place"] [] := T.FI_Empty.binds (ps := ["self", "place"]) fun _ _ _ _ _ _ us hl => match us, hl with | [_, _], _ => rfl
end X
/-! X41h: what of a bench is read. -/
namespace X
open PySem PySem.Spec PyProof.Rows L2 DL DM EX
/-- a bench's fields, in the order in which __init__ stores them -/
def bfl (cap : Int) (vN : V) (l : Addr) : List (Str × V) := [("cap", .int cap), ("now", vN), ("former", .ref l)]
theorem bne : (¬ (("now" : Str) = "cap")) ∧ (¬ (("former" : Str) = "cap")) ∧ ¬ (("former" : Str) = "now") := by decide +kernel
theorem bfl_cap {cap : Int} {vN : V} {l : Addr} : (bfl cap vN l).lookup ("cap" : Str) = some (V.int cap) := by unfold bfl; rw [lookup_put, if_pos rfl]
theorem bfl_now {cap : Int} {vN : V} {l : Addr} : (bfl cap vN l).lookup ("now" : Str) = some vN := by unfold bfl; rw [lookup_put, if_neg bne.1, lookup_put, if_pos rfl]
theorem bfl_former {cap : Int} {vN : V} {l : Addr} : (bfl cap vN l).lookup ("former" : Str) = some (V.ref l) := by unfold bfl; rw [lookup_put, if_neg bne.2.1, lookup_put, if_neg bne.2.2, lookup_put, if_pos rfl]
theorem bfl_no {cap : Int} {vN : V} {l : Addr} {m : Str} (h : (decide (m = "cap") || decide (m = "now") || decide (m = "former")) = false) : (bfl cap vN l).lookup m = none := by
  simp only [Bool.or_eq_false_iff, decide_eq_false_iff_not] at h
  unfold bfl
  rw [lookup_put, if_neg h.1.1, lookup_put, if_neg h.1.2, lookup_put, if_neg h.2]
  rfl
theorem bfl_put {cap : Int} {vN u : V} {l : Addr} : putF "now" u (bfl cap vN l) = bfl cap u l := by
  show (if ("cap" : Str) = "now" then _ else (("cap" : Str), V.int cap) :: (if ("now" : Str) = "now" then _ else _)) = _
  rw [if_neg (fun z => bne.1 z.symm), if_pos rfl]
  rfl
/-- a bench that stands: its cap and row -/
def BenAt (K : PySem.W.Frag) (C : Addr) (B : Hp) (b : Addr) (cap : Int) (row : List Int) : Prop := ∃ (dx : Addr) (vN : V) (l : Addr), B b = some (.ins C dx (bfl cap vN l)) ∧ DL.Dp K B vN (.tuple (iL row))
theorem BenAt.mono {K : PySem.W.Frag} {C : Addr} {B B' : Hp} {b : Addr} {cap : Int} {row : List Int} (h : BenAt K C B b cap row) (s : Same B B') : BenAt K C B' b cap row :=
  let ⟨dx, vN, l, h1, h2⟩ := h
  ⟨dx, vN, l, s _ _ h1, dp_mono s _ _ h2⟩
/-- how a method ends: with an answer, or an S raised -/
inductive Rs where
  | ok (z : D)
  | ex (S : Addr)
  | bad
def Rs.want (K : PySem.W.Frag) (B H : Hp) (Q : VK) (E : XK) : Rs → Prop
  | .ok z => ∀ v B' H', Grow B H B' H' → DL.Dp K B' v z → Q v H'
  | .ex S => ∀ B' H', Grow B H B' H' → E (.ref S) none H'
  | .bad => False
theorem Rs.want.grow {K : PySem.W.Frag} {B H B1 H1 : Hp} {Q : VK} {E : XK} {r : Rs} (g : Grow B H B1 H1) (h : r.want K B H Q E) : r.want K B1 H1 Q E := by
  cases r with
  | ok z => exact fun v B' H' g' dv => h v B' H' (g.trans g') dv
  | ex S => exact fun B' H' g' => h B' H' (g.trans g')
  | bad => exact h
/-- a method that reads -/
def spB (K : PySem.W.Frag) (C : Addr) (n : Nat) (F : Int → List Int → List D → Rs) : Sp := fun vs H Q E => ∃ (b : Addr) (us : List V) (ds : List D) (B : Hp) (cap : Int) (row : List Int), vs = .ref b :: us ∧ us.length = n ∧ Same B H ∧ BenAt K C B b cap row ∧ DL.DpAll K B us ds ∧ row.length ≤ 1000 ∧ (F cap row ds).want K B H Q E
theorem spB_len {K : PySem.W.Frag} {C : Addr} {n : Nat} {F : Int → List Int → List D → Rs} : ∀ vs H Q E, spB K C n F vs H Q E → vs.length = n + 1 := fun vs H Q E ⟨b, us, _, _, _, _, e, hl, _⟩ => by rw [e, List.length_cons, hl]
section
variable {P : Program} {w : World} {K : PySem.W.Frag} {mg : Str → Option Value} {base : Heap} {x qual : Str} {st : Stmt} {f : Addr} {fd : FuncData} {N ps : List Str} {k : Nat}
/-- a def that may raise, its exceptions' context None -/
theorem okM {sp : Sp} (F : Fun K x qual st f fd) (Sc : FnScope N ps (defScope st)) (len : ∀ vs H Q E, sp vs H Q E → vs.length = ps.length)
    (hb : ∀ (cdv : Value) (A : Around) (l : List Env) (s : Shared) (H : Hp) (vs : List V) (Q : VK) (E : XK), Room k (A.deeper (envOfC qual (defScope st) s.heap.objs.size f cdv)) → sp vs H Q E →
      ∃ t, PSs (cxOf (L2N.CX P w) P w K mg base N qual (defScope st) f cdv A l s H E) (defBody st) t ∧ t { nx := fun _ H' => Q .non H', rt := Q } (L2.start N vs) H) :
    FnOk P w K mg base (L2N.CX P w) (k + 1) f fd ps sp := by
  obtain ⟨oc, od, kV, doc, pm, an, cdv, ct, osl, rfl, lk, hcd⟩ := F.ex
  exact fn_of lk hcd Sc len fun A l s H vs Q E hr h => hb cdv A l s H vs Q E hr h
/-- such a def called where nothing is let out -/
theorem passN {X : Cx} : Passes (L2N.CX X.prog X.w) X C8.E0 := fun _ _ _ _ _ _ _ c => by
  obtain ⟨_, _, _, _, _, _, _, _, _, _, _, _, z⟩ := c
  exact z.elim
/-- within such a def: what is let out is let out -/
theorem passE {qual : Str} {sc : Scope} {cd : Value} {A : Around} {l : List Env} {s : Shared} {H : Hp} {E : XK} : Passes (L2N.CX P w) (cxOf (L2N.CX P w) P w K mg base N qual sc f cd A l s H E) E :=
  L2N.passes_call (L2N.takes_of rfl rfl rfl rfl) fun _ _ _ _ h => h
theorem rd_now (T : TB K mg) {i b dx l : Addr} {cap : Int} {vN : V} {σ : L2.St} {H : Hp} {Q : VK} (hi : σ[i]? = some (some (.ref b))) (h : H b = some (.ins T.C dx (bfl cap vN l))) (q : Q vN H) : tFld K (tVar i) "now" σ H Q :=
  ⟨.ref b, hi, b, _, dx, _, vN, rfl, h, T.cl, T.nN, bfl_now, q⟩
theorem iL_length {xs : List Int} : (iL xs).length = xs.length := iL_len
/-- len(self.now) -/
theorem rd_len (T : TB K mg) {i b dx l : Addr} {cap : Int} {vN : V} {row : List Int} {σ : L2.St} {B H : Hp} {Q : VK} (hi : σ[i]? = some (some (.ref b))) (h : H b = some (.ins T.C dx (bfl cap vN l))) (s : Same B H) (d : DL.Dp K B vN (.tuple (iL row))) (q : Q (.int row.length) H) :
    tCB (rLenS K) (tCons (tFld K (tVar i) "now") tNil) σ H Q := by
  obtain ⟨a, xs, rfl, h1, h2⟩ := dp_tuple d
  refine rd_now T hi h ⟨a, xs, rfl, .inr (SqT.of (s _ _ h1)), ?_⟩
  rw [dpAll_len h2, iL_length]
  exact q
/-- if not is_between(x, lo, hi): raise -/
theorem need_read {tx : L2.TE} {tr : TS} {D0 : Ends} {σ : L2.St} {B H : Hp} {x : V} {d : D} {lo hi : Int} (hx : σ[1]? = some (some x)) (sB : Same B H) (dx : DL.Dp K B x d) (htx : ∀ Q : VK, Q (.int hi) H → tx σ H Q)
    (q : if btw lo hi d = true then ∀ B' H', Grow B H B' H' → D0.nx σ H' else ∀ B' H', Grow B H B' H' → tr D0 σ H') : tIfS (tNot (tTest (tCall (spP K F_is_between) [] C8.E0 (tCons (tVar 1) (tCons (tC (.int lo)) (tCons tx tNil)))))) tr tNext D0 σ H := by
  refine ⟨x, hx, htx _ ⟨[d, .int lo, .int hi], B, .bool (btw lo hi d), sB, .cons dx (.cons (.int _) (.cons (.int _) .nil)), F_is_between_eq, fun v B' H' g dv => ⟨_, dp_bool dv, ?_⟩⟩⟩
  cases hb : btw lo hi d with
  | true => rw [if_pos hb] at q; exact q B' H' g
  | false => rw [hb, if_neg Bool.false_ne_true] at q; exact q B' H' g
def need (lo : Int) (up : Int) (S : Addr) : Int → List Int → List D → Rs := fun _ row ds => match ds with
  | [d] => if btw lo (row.length + up) d = true then .ok .none else .ex S
  | _ => .bad
theorem ok_need_place (T : TX K mg) (U : TC K mg) (Z : TB K mg) (R : TR K mg U) : FnOk P w K mg base (L2N.CX P w) 2 Z.f_need_place Z.d_need_place ["self", "place"] (spB K Z.C 1 (need 0 (-1) U.C_NoPlace)) := by
  refine okM (k := 1) Z.F_need_place sc_b_need_place spB_len fun cdv A l s H vs Q E hr h => ⟨_, pss_one (ps_if (pt_not (pt_val (pe_call (ok_is_between T) (hr.mono (by decide)) (by rfl) T.g_is_between T.F_is_between.kp (b_is_between T) .nil pass0 (pa_cons (pv 1) (pa_cons pe_int (pa_cons (pe_op op_sub (pe_callB (call_lenK (K := K) rfl) (by rfl) T.b_len (by decide +kernel) (pa_cons (pe_fld (pv 0) rfl) pa_nil)) pe_int) pa_nil))))))
    (pss_one (L2N.ps_raise (W := fun c d _ H => E c d H) rfl (L2N.takes_of rfl rfl rfl rfl) (L2N.pmk_own PySem.F.excBase_ValueError R.x_NoPlace U.g_NoPlace R.k_NoPlace (raises_own R.b_NoPlace U.t_NoPlace) (by rfl)))) pss_nil), ?_⟩
  obtain ⟨b, us, ds, B, cap, row, rfl, hl, sB, ⟨dx, vN, l', h1, h2⟩, da, hn, h⟩ := h
  match us, ds, hl, da with
  | [u], [d], _, .cons du .nil =>
    refine need_read (hi := (row.length : Int) - 1) (x := u) rfl sB du (fun Q' q => rd_len Z rfl (sB _ _ h1) sB h2 ⟨_, _, rfl, rfl, q⟩) ?_
    have e : need 0 (-1) U.C_NoPlace cap row [d] = if btw 0 ((row.length : Int) - 1) d = true then .ok .none else .ex U.C_NoPlace := rfl
    rw [e] at h
    by_cases hb : btw 0 ((row.length : Int) - 1) d = true
    · rw [if_pos hb] at h ⊢
      exact fun B' H' g => h _ B' H' g .non
    · rw [if_neg hb] at h ⊢
      exact fun B' H' g => h B' H' g
theorem ok_need_frame (T : TX K mg) (U : TC K mg) (Z : TB K mg) (R : TR K mg U) : FnOk P w K mg base (L2N.CX P w) 2 Z.f_need_frame Z.d_need_frame ["self", "frame"] (spB K Z.C 1 (need 1 0 U.C_NoFrame)) := by
  refine okM (k := 1) Z.F_need_frame sc_b_need_frame spB_len fun cdv A l s H vs Q E hr h => ⟨_, pss_one (ps_if (pt_not (pt_val (pe_call (ok_is_between T) (hr.mono (by decide)) (by rfl) T.g_is_between T.F_is_between.kp (b_is_between T) .nil pass0 (pa_cons (pv 1) (pa_cons pe_int (pa_cons (pe_callB (call_lenK (K := K) rfl) (by rfl) T.b_len (by decide +kernel) (pa_cons (pe_fld (pv 0) rfl) pa_nil)) pa_nil))))))
    (pss_one (L2N.ps_raise (W := fun c d _ H => E c d H) rfl (L2N.takes_of rfl rfl rfl rfl) (L2N.pmk_own PySem.F.excBase_ValueError R.x_NoFrame U.g_NoFrame R.k_NoFrame (raises_own R.b_NoFrame U.t_NoFrame) (by rfl)))) pss_nil), ?_⟩
  obtain ⟨b, us, ds, B, cap, row, rfl, hl, sB, ⟨dx, vN, l', h1, h2⟩, da, hn, h⟩ := h
  match us, ds, hl, da with
  | [u], [d], _, .cons du .nil =>
    refine need_read (hi := (row.length : Int)) (x := u) rfl sB du (fun Q' q => rd_len Z rfl (sB _ _ h1) sB h2 q) ?_
    have e : need 1 0 U.C_NoFrame cap row [d] = if btw 1 ((row.length : Int) + 0) d = true then .ok .none else .ex U.C_NoFrame := rfl
    rw [e, Int.add_zero] at h
    by_cases hb : btw 1 (row.length : Int) d = true
    · rw [if_pos hb] at h ⊢
      exact fun B' H' g => h _ B' H' g .non
    · rw [if_neg hb] at h ⊢
      exact fun B' H' g => h B' H' g
/-- row() -/
theorem ok_row (Z : TB K mg) : FnOk P w K mg base (L2N.CX P w) 1 Z.f_row Z.d_row ["self"] (spB K Z.C 0 fun _ row _ => .ok (.tuple (iL row))) := by
  refine okM (k := 0) Z.F_row sc_b_row spB_len fun cdv A l s H vs Q E hr h => ⟨_, pss_one (ps_ret (pe_fld (pv 0) rfl)), ?_⟩
  obtain ⟨b, us, ds, B, cap, row, rfl, hl, sB, ⟨dx, vN, l', h1, h2⟩, da, hn, h⟩ := h
  exact rd_now Z rfl (sB _ _ h1) (h vN B H (Grow.refl sB) h2)
/-- __len__ -/
theorem ok_len (T : TX K mg) (Z : TB K mg) : FnOk P w K mg base (L2N.CX P w) 1 Z.f_len Z.d_len ["self"] (spB K Z.C 0 fun _ row _ => .ok (.int row.length)) := by
  refine okM (k := 0) Z.F_len sc_b_len spB_len fun cdv A l s H vs Q E hr h => ⟨_, pss_one (ps_ret (pe_callB (call_lenK (K := K) rfl) (by rfl) T.b_len (by decide +kernel) (pa_cons (pe_fld (pv 0) rfl) pa_nil))), ?_⟩
  obtain ⟨b, us, ds, B, cap, row, rfl, hl, sB, ⟨dx, vN, l', h1, h2⟩, da, hn, h⟩ := h
  exact rd_len Z rfl (sB _ _ h1) sB h2 (h _ B H (Grow.refl sB) (.int _))
end
end X
/-! X41i: counts, tells_like, len of a bench, held. -/
namespace X
open PySem PySem.Spec PyProof.Rows L2 DL DM EX
/-! ### len(o), o an instance with its own __len__ -/
def rLenO (C : Addr) (sp : Sp) (E : XK) : List V → Hp → VK → Prop := fun xs H Q => ∃ (b dx : Addr) (fs : List (Str × V)), xs = [.ref b] ∧ H b = some (.ins C dx fs) ∧ sp [.ref b] H (fun v H' => ∃ n : Nat, v = .int n ∧ n ≤ 1000000 ∧ Q v H') E
theorem call_lenO {X : Cx} {CX : CXT} {C f : Addr} {fd : FuncData} {ps : List Str} {sp : Sp} {E : XK} {k : Nat} (F : FnOk X.prog X.w X.K X.mg X.base CX k f fd ps sp) (M : Meth X.K C "__len__" f) (hb : Binds X.K fd ps []) (hr : Room (k + 1) X.A) (hx : Passes CX X E) :
    CallR X (.builtin "len") (rLenO C sp E) := by
  rintro pins s σ H xs us Q I r ⟨b, dx, fs, rfl, ha, h⟩
  cases r with
  | cons r0 rr =>
    cases rr
    cases r0
    obtain ⟨mA, J, _⟩ := ins_get I.hok ha
    obtain ⟨od, J, _⟩ := J.look
    obtain ⟨m, hF⟩ := I.fr
    refine PySem.W.len_K hF I.ok.mod.kin J M.at_ M.fn ?_
    have e0 : Env0 X.prog X.w X.K X.mg X.base X.A.in1 X.stack s H := by
      have e := I.env0
      exact ⟨e.frames, e.mod, e.bs, e.bsz, e.funs, e.frf, e.hok, e.bare⟩
    have hl := F.len _ _ _ _ h
    have r2 : Vals [V.ref b] [Value.ref b] := .cons rfl .nil
    refine wpAny_call (codeAny_mono (F.run X.A.in1 X.stack s H ⟨[.ref b], []⟩ [.ref b] [.ref b] _ E hr.in1 e0 (by
      have := hb s [.ref b] I.kIn (by simpa using hl)
      simpa using this) r2 h) fun rs s' hq => ?_)
    match rs, hq with
    | .error e, z => exact hx pins σ H s e s' I z
    | .ok (.ret w), z =>
      obtain ⟨v, H', I', rv, n, rfl, hn, q⟩ := I.after z
      obtain ⟨t, rfl⟩ := (show ∃ t, w = Value.int (n : Int) t from rv)
      exact ⟨⟨by omega, by omega⟩, .int (n : Int), H', I'.tok _, ⟨_, rfl⟩, q⟩
/-! ### frames -/
/-- a frame's length -/
def frm (n : Nat) : D → Option Nat
  | .int i => if 1 ≤ i ∧ i ≤ n then some i.toNat else none
  | _ => none
theorem frm_btw {n : Nat} {d : D} : btw 1 (n : Int) d = (frm n d).isSome := by
  cases d with
  | int i =>
    show (decide (1 ≤ i) && decide (i ≤ (n : Int))) = (if 1 ≤ i ∧ i ≤ n then some i.toNat else none).isSome
    by_cases h : 1 ≤ i ∧ i ≤ n
    · rw [if_pos h, decide_eq_true h.1, decide_eq_true h.2]; rfl
    · rw [if_neg h]
      by_cases h2 : 1 ≤ i
      · rw [decide_eq_true h2, decide_eq_false (by omega)]; rfl
      · rw [decide_eq_false h2]; rfl
  | _ => rfl
theorem frm_some {n f : Nat} {d : D} (h : frm n d = some f) : d = .int f ∧ 1 ≤ f ∧ f ≤ n := by
  cases d with
  | int i =>
    have h : (if 1 ≤ i ∧ i ≤ n then some i.toNat else none) = some f := h
    split at h
    · cases h
      exact ⟨by congr 1; omega, by omega, by omega⟩
    · cases h
  | _ => cases h
def cntR (S : Addr) : Int → List Int → List D → Rs := fun _ row ds => match ds with
  | [d] => match frm row.length d with
    | some f => .ok (.tuple (iL (csL f row)))
    | none => .ex S
  | _ => .bad
section
variable {P : Program} {w : World} {K : PySem.W.Frag} {mg : Str → Option Value} {base : Heap}
/-- a method that reads, called -/
theorem meth_read {C b : Addr} {i n : Nat} {m : Str} {F : Int → List Int → List D → Rs} {B H : Hp} {σ : L2.St} {cap : Int} {row : List Int} {us : List V} {ds : List D} {t : TA} {Q : VK} {E : XK} (hm : (decide (m = "cap") || decide (m = "now") || decide (m = "former")) = false) (hi : σ[i]? = some (some (.ref b)))
    (sB : Same B H) (hb : BenAt K C B b cap row) (ht : ∀ Q' : List V → Hp → Prop, Q' us H → t σ H Q') (hl : us.length = n) (da : DL.DpAll K B us ds) (hn : row.length ≤ 1000) (hw : (F cap row ds).want K B H Q E) : tMeth C m (spB K C n F) [] E (tVar i) t σ H Q := by
  have hb' := hb
  obtain ⟨dx, vN, l, h1, h2⟩ := hb
  exact ⟨.ref b, hi, b, dx, _, rfl, sB _ _ h1, bfl_no hm, ht _ (by rw [List.append_nil]; exact ⟨b, us, ds, B, cap, row, rfl, hl, sB, hb', da, hn, hw⟩)⟩
/-- self.need_frame(frame), and on where it is one -/
theorem needF (S : Addr) {C b : Addr} {i j : Nat} {B H : Hp} {σ : L2.St} {cap : Int} {row : List Int} {u : V} {d : D} {D0 : Ends} {E : XK} (hi : σ[i]? = some (some (.ref b))) (hj : σ[j]? = some (some u)) (sB : Same B H) (hb : BenAt K C B b cap row) (du : DL.Dp K B u d) (hn : row.length ≤ 1000)
    (q : match frm row.length d with
      | some _ => ∀ B' H', Grow B H B' H' → D0.nx σ H'
      | none => ∀ B' H', Grow B H B' H' → E (.ref S) none H') : tDrop (tMeth C "need_frame" (spB K C 1 (need 1 0 S)) [] E (tVar i) (tCons (tVar j) tNil)) D0 σ H := by
  refine meth_read (us := [u]) (ds := [d]) (by decide +kernel) hi sB hb (fun Q' z => ⟨u, hj, z⟩) rfl (.cons du .nil) hn ?_
  have e : need 1 0 S cap row [d] = if btw 1 ((row.length : Int) + 0) d = true then .ok .none else .ex S := rfl
  rw [e, Int.add_zero, frm_btw]
  cases hf : frm row.length d with
  | none => rw [hf] at q; exact fun B' H' g => q B' H' g
  | some f => rw [hf] at q; exact fun v B' H' g _ => q B' H' g
theorem ok_counts (T : TX K mg) (U : TC K mg) (Z : TB K mg) (R : TR K mg U) : FnOk P w K mg base (L2N.CX P w) 3 Z.f_counts Z.d_counts ["self", "frame"] (spB K Z.C 1 (cntR U.C_NoFrame)) := by
  refine okM (k := 2) Z.F_counts sc_b_counts spB_len fun cdv A l s H vs Q E hr h => ⟨_, pss_cons (ps_expr (pe_meth (pv 0) Z.cl Z.M_need_frame (ok_need_frame T U Z R) (hr.mono (by decide)) (b_b_need_frame Z) .nil passE (pa_cons (pv 1) pa_nil)))
    (pss_one (ps_ret (pe_call (ok_counts_of T) (hr.mono (by decide)) (by rfl) T.g_counts_of T.F_counts_of.kp (b_counts_of T) .nil pass0 (pa_cons (pe_fld (pv 0) rfl) (pa_cons (pv 1) pa_nil))))), ?_⟩
  obtain ⟨b, us, ds, B, cap, row, rfl, hl, sB, hb, da, hn, h⟩ := h
  match us, ds, hl, da with
  | [u], [d], _, .cons du .nil =>
    refine needF U.C_NoFrame (i := 0) (j := 1) (u := u) (D0 := _) rfl rfl sB hb du hn ?_
    have e : cntR U.C_NoFrame cap row [d] = match frm row.length d with | some f => .ok (.tuple (iL (csL f row))) | none => .ex U.C_NoFrame := rfl
    rw [e] at h
    cases hf : frm row.length d with
    | none => rw [hf] at h; exact fun B' H' g => h B' H' g
    | some f =>
      rw [hf] at h
      obtain ⟨rfl, f1, f2⟩ := frm_some hf
      intro B1 H1 g
      obtain ⟨dx, vN, l', h1, h2⟩ := hb
      refine ⟨.ref b, rfl, b, _, dx, _, vN, rfl, g.bh _ _ (g.bb _ _ h1), Z.cl, Z.nN, bfl_now, u, rfl, ?_⟩
      exact ⟨[.tuple (iL row), .int f], B1, _, g.bh, .cons (dp_mono g.bb _ _ h2) (.cons (dp_mono g.bb _ _ du) .nil), F_counts_of_eq f1 f2 hn, fun v B' H' g' dv => h v B' H' (g.trans g') dv⟩
end
end X
/-! X41j: tells_like, held. -/
namespace X
open PySem PySem.Spec PyProof.Rows L2 DL DM EX
theorem iL_inj {a b : List Int} (h : iL a = iL b) : a = b := by
  unfold iL at h
  exact (List.map_inj_right (fun _ _ z => PyData.int.inj z)).mp h
theorem eqT {a b : List Int} : eqD (.tuple (iL a)) (.tuple (iL b)) = some (.bool (decide (a = b))) := eqD_b pln_tup pln_tup (by decide) ⟨fun z => by rw [of_decide_eq_true z], fun z => decide_eq_true (iL_inj (PyData.tuple.inj z))⟩
theorem neT {a b : List Int} : neD (.tuple (iL a)) (.tuple (iL b)) = some (.bool (!decide (a = b))) := neD_b pln_tup pln_tup (by decide) ⟨fun z => by rw [of_decide_eq_true z], fun z => decide_eq_true (iL_inj (PyData.tuple.inj z))⟩
/-- whether two rows tell the same by a frame -/
def alikeB (row row' : List Int) (f : Nat) : Bool := decide (row.length = row'.length) && decide (csL f row = csL f row')
def tlR (S : Addr) (row row' : List Int) (d : D) : Rs := match frm row.length d with
  | some f => .ok (.bool (alikeB row row' f))
  | none => .ex S
def spTL (K : PySem.W.Frag) (C S : Addr) : Sp := fun vs H Q E => ∃ (b o : Addr) (y : V) (B : Hp) (cap cap' : Int) (row row' : List Int) (d : D), vs = [.ref b, .ref o, y] ∧ Same B H ∧ BenAt K C B b cap row ∧ BenAt K C B o cap' row' ∧ DL.Dp K B y d ∧ row.length ≤ 1000 ∧ row'.length ≤ 1000 ∧
  (tlR S row row' d).want K B H Q E
section
variable {P : Program} {w : World} {K : PySem.W.Frag} {mg : Str → Option Value} {base : Heap}
/-- len(o) -/
theorem len_read {C b : Addr} {i : Nat} {B H : Hp} {σ : L2.St} {cap : Int} {row : List Int} {Q : VK} {E : XK} (hi : σ[i]? = some (some (.ref b))) (sB : Same B H) (hb : BenAt K C B b cap row) (hn : row.length ≤ 1000) (q : ∀ B' H', Grow B H B' H' → Q (.int row.length) H') :
    tCB (rLenO C (spB K C 0 fun _ row _ => .ok (.int row.length)) E) (tCons (tVar i) tNil) σ H Q := by
  have hb' := hb
  obtain ⟨dx, vN, l, h1, h2⟩ := hb
  refine ⟨.ref b, hi, b, dx, _, rfl, sB _ _ h1, b, [], [], B, cap, row, rfl, rfl, sB, hb', .nil, hn, fun v B' H' g dv => ⟨row.length, dp_int dv, by omega, ?_⟩⟩
  rw [dp_int dv]
  exact q B' H' g
theorem ok_tells_like (T : TX K mg) (U : TC K mg) (Z : TB K mg) (R : TR K mg U) : FnOk P w K mg base (L2N.CX P w) 4 Z.f_tells_like Z.d_tells_like ["self", "other", "frame"] (spTL K Z.C U.C_NoFrame) := by
  refine okM (k := 3) Z.F_tells_like sc_b_tells_like (fun vs H Q E ⟨_, _, _, _, _, _, _, _, _, e, _⟩ => by rw [e]; rfl) fun cdv A l s H vs Q E hr h => ⟨_, pss_cons (ps_expr (pe_meth (pv 0) Z.cl Z.M_need_frame (ok_need_frame T U Z R) (hr.mono (by decide)) (b_b_need_frame Z) .nil passE (pa_cons (pv 2) pa_nil)))
    (pss_one (ps_ret (pe_and (pe_cmpR (op_eqK (K := K) rfl hr.units) (pe_callB (call_lenO (ok_len T Z) Z.M_len (b_b_len Z) (hr.mono (by decide)) passN) (by rfl) T.b_len (by decide +kernel) (pa_cons (pv 0) pa_nil)) (pe_callB (call_lenO (ok_len T Z) Z.M_len (b_b_len Z) (hr.mono (by decide)) passN) (by rfl) T.b_len (by decide +kernel) (pa_cons (pv 1) pa_nil)) (nomark _))
      (pe_one (pe_cmpR (op_eqK (K := K) rfl hr.units) (pe_meth (pv 0) Z.cl Z.M_counts (ok_counts T U Z R) (hr.mono (by decide)) (b_b_counts Z) .nil passN (pa_cons (pv 2) pa_nil)) (pe_meth (pv 1) Z.cl Z.M_counts (ok_counts T U Z R) (hr.mono (by decide)) (b_b_counts Z) .nil passN (pa_cons (pv 2) pa_nil)) (nomark _)))))), ?_⟩
  obtain ⟨b, o, y, B, cap, cap', row, row', d, rfl, sB, hb, ho, dy, hn, hn', h⟩ := h
  refine needF U.C_NoFrame (i := 0) (j := 2) (u := y) (D0 := _) rfl rfl sB hb dy hn ?_
  unfold tlR at h
  cases hf : frm row.length d with
  | none => rw [hf] at h; exact fun B' H' g => h B' H' g
  | some f =>
    rw [hf] at h
    obtain ⟨rfl, f1, f2⟩ := frm_some hf
    intro B1 H1 g1
    refine len_read (i := 0) (E := C8.E0) rfl g1.bh (hb.mono g1.bb) hn fun B2 H2 g2 => len_read (i := 1) (E := C8.E0) rfl g2.bh ((ho.mono g1.bb).mono g2.bb) hn' fun B3 H3 g3 => ?_
    have g13 := (g1.trans g2).trans g3
    refine d_eq B3 H3 _ _ (.int row.length) (.int row'.length) _ _ g3.bh (.int _) (.int _) eqD_int fun v B4 H4 g4 dv => ⟨_, dp_bool dv, ?_⟩
    have g14 := g13.trans g4
    by_cases he : row.length = row'.length
    · rw [if_pos (by rw [decide_eq_true_eq, he])]
      have c1 : ∀ c, cntR U.C_NoFrame c row [.int f] = .ok (.tuple (iL (csL f row))) := fun c => by
        show (match frm row.length (.int f) with | some f => Rs.ok (.tuple (iL (csL f row))) | none => .ex U.C_NoFrame) = _
        rw [hf]
      have c2 : ∀ c, cntR U.C_NoFrame c row' [.int f] = .ok (.tuple (iL (csL f row'))) := fun c => by
        show (match frm row'.length (.int f) with | some f => Rs.ok (.tuple (iL (csL f row'))) | none => .ex U.C_NoFrame) = _
        rw [← he, hf]
      refine meth_read (us := [y]) (ds := [.int f]) (i := 0) (E := C8.E0) (by decide +kernel) rfl g14.bh (hb.mono g14.bb) (fun Q' z => ⟨y, rfl, z⟩) rfl (.cons (dp_mono g14.bb _ _ dy) .nil) hn ?_
      rw [c1]
      intro v5 B5 H5 g5 d5
      have g15 := g14.trans g5
      refine meth_read (us := [y]) (ds := [.int f]) (i := 1) (E := C8.E0) (by decide +kernel) rfl g15.bh (ho.mono g15.bb) (fun Q' z => ⟨y, rfl, z⟩) rfl (.cons (dp_mono g15.bb _ _ dy) .nil) hn' ?_
      rw [c2]
      intro v6 B6 H6 g6 d6
      refine d_eq B6 H6 _ _ _ _ _ _ g6.bh (dp_mono g6.bb _ _ d5) d6 eqT fun v7 B7 H7 g7 d7 => ?_
      refine h v7 B7 H7 ((g15.trans g6).trans g7) ?_
      unfold alikeB
      rw [decide_eq_true he, Bool.true_and]
      exact d7
    · rw [if_neg (by rw [decide_eq_true_eq]; omega)]
      refine h _ B4 H4 g14 ?_
      unfold alikeB
      rw [decide_eq_false he, Bool.false_and]
      exact .bl false
/-! ### held -/
def heldR : Int → List Int → List D → Rs := fun _ row ds => match ds with
  | [.int i, .int m] => if 0 ≤ i ∧ i < row.length then .ok (.list (iL (row.set i.toNat (gI row i.toNat + m)))) else .bad
  | _ => .bad
theorem imp_fldJ {C a dx l : Addr} {i : Nat} {J0 : Hp} {cap : Int} {vN : V} {d : D} (Z : TB K mg) (hj : J0 a = some (.ins Z.C dx (bfl cap vN l))) (dv : DL.Dp K J0 vN d) : ImpEJ K J0 (tFld K (tVar i) "now") (sGive i (.ref a) d) := fun ad B σ H ρ c z c' Q j R e q => by
  obtain ⟨e0, rfl, rfl⟩ := sGive_slot e
  exact ⟨.ref a, R.slot i _ e0, a, _, dx, _, vN, rfl, R.sub _ _ (j _ _ hj), Z.cl, Z.nN, bfl_now, q vN B H R.fwRefl (dp_mono j _ _ dv)⟩
/-- the elements of held -/
noncomputable def S_heldL (a : Addr) (row : List Int) : SL := sLc (sEnum (sGive 0 (.ref a) (.tuple (iL row)))) (qTup (qCons (qN 3) (qCons (qN 4) qNil))) sYes (sIfE (sB (sOp eqD (sV 3) (sV 1))) (sOp addD (sV 4) (sV 2)) (sV 4)) [3, 4]
end
end X
/-! X41k: held. -/
namespace X
open PySem PySem.Spec PyProof.Rows L2 DL DM EX
section
variable {K : PySem.W.Frag}
theorem rl_startO {B H : Hp} {N : List Str} {vs : List V} {ds : List D} {n : Nat} {v0 : V} (s : Same B H) (h : DL.DpAll K B vs ds) (hl : N.length = vs.length + 1 + n) :
    DL.Rl K none B (L2.start N (v0 :: vs)) H (.op v0 :: (ds.map Sl.im ++ List.replicate n Sl.un)) (0, 0) := by
  have es : L2.start N (v0 :: vs) = some v0 :: (vs.map some ++ List.replicate n none) := by
    unfold L2.start
    rw [List.map_cons, List.cons_append, List.length_cons, hl]
    congr 3
    omega
  have es2 : ∀ (i : Nat), (vs.map some ++ List.replicate n (none : Option V))[i]? = (L2.start (List.replicate (vs.length + n) "") vs)[i]? := fun i => by
    unfold L2.start
    rw [List.length_replicate]
    congr 4
    omega
  rw [es]
  refine ⟨s, fun b e => (by cases e), fun b e => (by cases e), ?_, fun i t e => ?_, fun i j s t b hij e1 e2 o1 o2 => ?_⟩
  · rw [List.length_cons, List.length_cons, List.length_append, List.length_append, List.length_map, List.length_map, List.length_replicate, List.length_replicate, dpAll_len h]
  · cases i with
    | zero => simp at e; subst e; rfl
    | succ i =>
      rw [List.getElem?_cons_succ] at e ⊢
      rw [es2]
      exact slots_start h i t e
  · cases i with
    | zero => simp at e1; subst e1; cases o1
    | succ i =>
      rw [List.getElem?_cons_succ] at e1
      rw [noOwn_start e1] at o1; cases o1
theorem noOwn_startO {N : List Str} {vs : List V} {ds : List D} {n : Nat} {v0 : V} {σ : L2.St} : ∀ a, ¬ Owned (.op v0 :: (ds.map Sl.im ++ List.replicate n Sl.un)) σ a := noOwned fun i s e => by
  cases i with
  | zero => simp at e; subst e; rfl
  | succ i => rw [List.getElem?_cons_succ] at e; exact noOwn_start e
end
theorem enumL_get {xs : List D} {i : Nat} : (enumL xs)[i]? = xs[i]?.map fun x => PyData.tuple [.int (i : Nat), x] := by
  unfold enumL
  rw [List.getElem?_map, List.getElem?_zipIdx]
  cases xs[i]? with
  | none => rfl
  | some x => simp
def heldF (p : Nat) (m : Int) : D → D
  | .tuple [.int j, .int v] => .int (if j = (p : Int) then v + m else v)
  | _ => .none
theorem held_list {row : List Int} {p : Nat} {m : Int} (hp : p < row.length) : (enumL (iL row)).map (heldF p m) = iL (row.set p (gI row p + m)) := by
  refine List.ext_getElem? fun i => ?_
  rw [List.getElem?_map, enumL_get, iL_get, iL_get, List.getElem?_set]
  by_cases hi : i < row.length
  · rw [List.getElem?_eq_getElem hi]
    by_cases hpi : p = i
    · subst hpi
      rw [if_pos rfl, if_pos hp]
      show some (heldF p m (.tuple [.int (p : Nat), .int row[p]])) = some (.int (gI row p + m))
      have : gI row p = row[p] := by unfold gI; rw [List.getD_eq_getElem?_getD, List.getElem?_eq_getElem hp]; rfl
      rw [this]
      show some (PyData.int (if ((p : Nat) : Int) = (p : Int) then row[p] + m else row[p])) = _
      rw [if_pos rfl]
    · rw [if_neg hpi]
      show some (heldF p m (.tuple [.int (i : Nat), .int row[i]])) = some (.int row[i])
      show some (PyData.int (if ((i : Nat) : Int) = (p : Int) then row[i] + m else row[i])) = _
      rw [if_neg (by omega)]
  · rw [List.getElem?_eq_none (by omega)]
    by_cases hpi : p = i
    · omega
    · rw [if_neg hpi]; rfl
theorem held_ev {a : Addr} {row : List Int} {p : Nat} {m : Int} (hp : p < row.length) (hn : row.length ≤ 1000) :
    sRet (sOfL (S_heldL a row)) (.op (.ref a) :: ([PyData.int p, .int m].map Sl.im ++ List.replicate 2 Sl.un)) (0, 0) = some (.rt (.list (iL (row.set p (gI row p + m)))), [.op (.ref a), .im (.int p), .im (.int m), .un, .un], (0, 0)) := by
  have e1 : sGive 0 (.ref a) (.tuple (iL row)) [.op (.ref a), .im (.int p), .im (.int m), .un, .un] (0, 0) = some (.tuple (iL row), (0, 0)) := sGive_eq rfl
  have fw : few (enumL (iL row)).length = true := by
    unfold few enumL
    rw [List.length_map, List.length_zipIdx, iL_len]
    exact decide_eq_true (by omega)
  have el := lcS_map (c := (0, 0)) (tg := qTup (qCons (qN 3) (qCons (qN 4) qNil))) (e := sIfE (sB (sOp eqD (sV 3) (sV 1))) (sOp addD (sV 4) (sV 2)) (sV 4)) (ρ0 := [.op (.ref a), .im (.int p), .im (.int m), .un, .un]) (xs := enumL (iL row)) (heldF p m) fun x hx => by
    obtain ⟨i, hi⟩ := List.getElem?_of_mem hx
    rw [enumL_get, iL_get] at hi
    cases hr : row[i]? with
    | none => rw [hr] at hi; cases hi
    | some v =>
      rw [hr] at hi
      cases hi
      refine ⟨[.op (.ref a), .im (.int p), .im (.int m), .im (.int (i : Nat)), .im (.int v)], rfl, ?_⟩
      simp only [ev_sIfE, ev_sB, ev_sOp, ev_sV, List.getElem?_cons_succ, List.getElem?_cons_zero, Option.bind_some, eqD_int]
      show (if decide (((i : Nat) : Int) = (p : Int)) = true then some (PyData.int (v + m), ((0 : Int), (0 : Int))) else some (.int v, (0, 0))) = some (PyData.int (if ((i : Nat) : Int) = (p : Int) then v + m else v), (0, 0))
      by_cases h : ((i : Nat) : Int) = (p : Int)
      · rw [decide_eq_true h, if_pos rfl, if_pos h]
      · rw [decide_eq_false h, if_neg Bool.false_ne_true, if_neg h]
  show sRet (sOfL (S_heldL a row)) [.op (.ref a), .im (.int p), .im (.int m), .un, .un] (0, 0) = _
  unfold S_heldL
  simp only [ev_sRet, ev_sOfL, ev_sLc, ev_sEnum, e1, Option.bind_some, seqD, fw, if_true]
  show ((lcS (qTup (qCons (qN 3) (qCons (qN 4) qNil))) sYes (sIfE (sB (sOp eqD (sV 3) (sV 1))) (sOp addD (sV 4) (sV 2)) (sV 4)) [.op (.ref a), .im (.int p), .im (.int m), .un, .un] (enumL (iL row)) (0, 0)).bind _).bind _ = _
  rw [el, held_list hp]
  rfl
section
variable {P : Program} {w : World} {K : PySem.W.Frag} {mg : Str → Option Value} {base : Heap}
theorem ok_held (T : TX K mg) (U : TC K mg) (Z : TB K mg) : FnOk P w K mg base (L2N.CX P w) 1 Z.f_held Z.d_held ["self", "place", "more"] (spB K Z.C 2 heldR) := by
  refine okM (k := 0) Z.F_held sc_b_held spB_len fun cdv A l s H vs Q E hr h => ⟨_, pss_one (ps_ret (pe_lc (own := [("at", 3), ("one", 4)]) (by rfl) sc_b_held.nd (pi_enumK (by rfl) U.b_enumerate (pa_cons (pe_fld (pv 0) rfl) pa_nil)) (blkOk_by (own := [("at", 3), ("one", 4)]) (N := Nb_held) (sc := defScope sb_held) (by decide +kernel))
    (fun _ _ _ _ _ => (pg_tupK (K := K) (n := 2) rfl (by rfl) (pgs_cons (pg_name (i := 3) sc_b_held.nd rfl (by first | exact Or.inl rfl | exact Or.inr rfl)) (pgs_cons (pg_name (i := 4) sc_b_held.nd rfl (by first | exact Or.inl rfl | exact Or.inr rfl)) pgs_nil)))) (fun _ _ _ _ _ => pts_nil)
    (fun _ _ _ _ _ => pe_ifExp (pt_cmpR (op_eqK (K := K) rfl hr.units) (pv 3) (pv 1) (nomark _)) (pe_op (op_addK (K := K) rfl) (pv 4) (pv 2)) (pv 4)))), ?_⟩
  obtain ⟨b, us, ds, B, cap, row, rfl, hl, sB, ⟨dx, vN, l', h1, h2⟩, da, hn, h⟩ := h
  match us, ds, hl, da with
  | [u1, u2], [d1, d2], _, .cons a1 (.cons a2 .nil) =>
    unfold heldR at h
    split at h
    · rename_i i m e
      cases e
      split at h
      · rename_i hi
        have im : ImpSJ K B _ (sRet (sOfL (S_heldL b row))) := imp_retJ (imp_ofLJ (imp_lcJ (vs := [3, 4]) (imp_enumJ (imp_fldJ (C := b) Z h1 h2)) (imp_gTup (imp_gCons (imp_gN 3) (imp_gCons (imp_gN 4) imp_gNil)) (qCons_len (qCons_len qNil_len))) (only_tup (only_cons (only_N (by decide)) (only_cons (only_N (by decide)) only_nil mono_N mono_nil) mono_N (mono_cons mono_N mono_nil))) (mono_tup (mono_cons mono_N (mono_cons mono_N mono_nil))) imp_yes (imp_ifE (imp_test (imp_op d_eq (imp_v 3) (imp_v 1))) (imp_op d_add (imp_v 4) (imp_v 2)) (imp_v 4))))
        have R := rl_startO (K := K) (N := Nb_held) (n := 2) (v0 := .ref b) sB (.cons a1 (.cons a2 .nil)) rfl
        obtain ⟨p, rfl⟩ : ∃ p : Nat, i = (p : Int) := ⟨i.toNat, by omega⟩
        refine im none B _ H _ (0, 0) _ _ (Same.refl B) R (held_ev (m := m) (by omega) hn) fun v B' σ' H' R' y dv => ?_
        have no := noOwn_startO (vs := [u1, u2]) (ds := [PyData.int (p : Int), .int m]) (n := 2) (v0 := .ref b) (N := Nb_held) (σ := L2.start Nb_held [.ref b, u1, u2])
        refine h v B' H' ⟨y.bb, R'.sub, fun a o e => y.keep a o (fun e => nomatch e) e (no a), fun a o e1 e2 => (y.fresh a o e1 e2).elim id fun u => absurd u (no a)⟩ ?_
        have ep : ((p : Int)).toNat = p := by omega
        rw [ep]
        exact dv
      · exact h.elim
    · exact h.elim
end
end X
/-! X41l: a bench that changes; keep. -/
namespace X
open PySem PySem.Spec PyProof.Rows L2 DL DM EX
abbrev rowD (r : List Int) : D := .tuple (iL r)
section
variable {K : PySem.W.Frag} {B H B' H' B1 H1 : Hp} {C b dx l : Addr} {cap : Int} {row : List Int} {past : List (List Int)}
/-- a bench that changes: its object at b, what it stood ahead at l; neither is persistent -/
structure BM (K : PySem.W.Frag) (C : Addr) (B H : Hp) (b dx l : Addr) (cap : Int) (row : List Int) (past : List (List Int)) : Prop where
  ob : ∃ (vN : V) (vs : List V), H b = some (.ins C dx (bfl cap vN l)) ∧ DL.Dp K B vN (rowD row) ∧ H l = some (.lst vs) ∧ DL.DpAll K B vs (past.map rowD)
  nb : B b = none
  nl : B l = none
theorem BM.ne (m : BM K C B H b dx l cap row past) : b ≠ l := fun z => by
  obtain ⟨vN, vs, h1, _, h2, _⟩ := m.ob
  rw [z, h2] at h1; cases h1
/-- what a deed leaves -/
structure Ch (B H B' H' : Hp) (b l : Addr) : Prop where
  bb : Same B B'
  bh : Same B' H'
  keep : ∀ a o, a ≠ b → a ≠ l → H a = some o → H' a = some o
  fresh : ∀ a o, B' a = some o → B a = none → H a = none
theorem _root_.DL.Grow.ch (g : Grow B H B1 H1) (c : Ch B1 H1 B' H' b l) : Ch B H B' H' b l :=
  ⟨g.bb.trans c.bb, c.bh, fun a o n1 n2 h => c.keep a o n1 n2 (g.hh a o h), fun a o h n => by
    cases q : B1 a with
    | some u => exact g.fresh a u q n
    | none => exact g.hh.free (c.fresh a o h q)⟩
theorem _root_.DL.Grow.at_none (g : Grow B H B' H') {a : Addr} {o : HO} (n : B a = none) (h : H a = some o) : B' a = none := by
  cases q : B' a with
  | none => rfl
  | some u => rw [g.fresh a u q n] at h; cases h
theorem BM.grow (m : BM K C B H b dx l cap row past) (g : Grow B H B' H') : BM K C B' H' b dx l cap row past := by
  obtain ⟨vN, vs, h1, h2, h3, h4⟩ := m.ob
  exact ⟨⟨vN, vs, g.hh _ _ h1, dp_mono g.bb _ _ h2, g.hh _ _ h3, dpAll_mono g.bb _ _ h4⟩, g.at_none m.nb h1, g.at_none m.nl h3⟩
theorem grow_same (s : Same B H) (h : Same H H') : Grow B H B H' := ⟨Same.refl B, s.trans h, h, fun a o e n => by rw [e] at n; cases n⟩
mutual
theorem dp_del {a C dx : Addr} {fs : List (Str × V)} {B : Hp} (h : B a = some (.ins C dx fs)) : ∀ (d : D) (v : V), DL.Dp K B v d → DL.Dp K (delH B a) v d
  | .none, _, h => by cases h; exact .non
  | .bool b, _, h => by cases h; exact .bl b
  | .int i, _, h => by cases h; exact .int i
  | .str x, _, h => by cases h; exact .str x
  | .list ds, _, z => by
    cases z with
    | lst hs ha => exact .lst (by rw [delH_ne (fun e => by rw [e, h] at hs; cases hs)]; exact hs) (dpAll_del h ds _ ha)
  | .tuple ds, _, z => by
    cases z with
    | tup hs ha => exact .tup (by rw [delH_ne (fun e => by rw [e, h] at hs; cases hs)]; exact hs) (dpAll_del h ds _ ha)
  | .dict _, _, h => by cases h
theorem dpAll_del {a C dx : Addr} {fs : List (Str × V)} {B : Hp} (h : B a = some (.ins C dx fs)) : ∀ (ds : List D) (vs : List V), DL.DpAll K B vs ds → DL.DpAll K (delH B a) vs ds
  | [], _, h => by cases h; exact .nil
  | d :: ds, _, z => by
    cases z with
    | cons h1 h2 => exact .cons (dp_del h d _ h1) (dpAll_del h ds _ h2)
end
/-- an object that stood for the time of a call -/
theorem grow_drop {a : Addr} {o : HO} (n : B a = none) (h : H a = some o) (g : Grow (upd B a o) H B' H') : Grow B H (delH B' a) H' where
  bb := fun x u e => by
    have hx : x ≠ a := fun z => by rw [z, n] at e; cases e
    rw [delH_ne hx]
    exact g.bb x u (by rw [upd_ne hx]; exact e)
  bh := fun x u e => by
    have hx : x ≠ a := fun z => by rw [z, delH_self] at e; cases e
    rw [delH_ne hx] at e
    exact g.bh x u e
  hh := g.hh
  fresh := fun x u e m => by
    have hx : x ≠ a := fun z => by rw [z, delH_self] at e; cases e
    rw [delH_ne hx] at e
    exact g.fresh x u e (by rw [upd_ne hx]; exact m)
theorem same_put {a : Addr} {o : HO} (s : Same B H) (h : H a = some o) : Same (upd B a o) H := fun x u e => by
  by_cases z : x = a
  · rw [z, upd_same] at e; rw [z, h]; exact e
  · rw [upd_ne z] at e; exact s x u e
theorem same_upd {a : Addr} {o : HO} (n : B a = none) : Same B (upd B a o) := fun x u e => by
  rw [upd_ne (fun z => by rw [z, n] at e; cases e)]; exact e
/-- a method that reads, called at a bench that changes -/
theorem methM_read {i n : Nat} {m : Str} {F : Int → List Int → List D → Rs} {σ : L2.St} {us : List V} {ds : List D} {t : TA} {Q : VK} {E : XK} (hm : (decide (m = "cap") || decide (m = "now") || decide (m = "former")) = false) (hi : σ[i]? = some (some (.ref b)))
    (sB : Same B H) (bm : BM K C B H b dx l cap row past) (ht : ∀ Q' : List V → Hp → Prop, Q' us H → t σ H Q') (hl : us.length = n) (da : DL.DpAll K B us ds) (hn : row.length ≤ 1000) (hw : (F cap row ds).want K B H Q E) : tMeth C m (spB K C n F) [] E (tVar i) t σ H Q := by
  obtain ⟨vN, vs, h1, h2, h3, h4⟩ := bm.ob
  have sm : Same B (upd B b (.ins C dx (bfl cap vN l))) := same_upd bm.nb
  refine meth_read hm hi (same_put sB h1) ⟨dx, vN, l, upd_same, dp_mono sm _ _ h2⟩ ht hl (dpAll_mono sm _ _ da) hn ?_
  cases hF : F cap row ds with
  | ok z =>
    rw [hF] at hw
    exact fun v B' H' g dv => hw v _ H' (grow_drop bm.nb h1 g) (dp_del (g.bb _ _ upd_same) _ _ dv)
  | ex S =>
    rw [hF] at hw
    exact fun B' H' g => hw _ H' (grow_drop bm.nb h1 g)
  | bad => rw [hF] at hw; exact hw
/-- how a deed ends -/
inductive Oc where
  | ok (row : List Int) (past : List (List Int))
  | ex (S : Addr)
  | exP (S : Addr) (p : Int)
  | bad
def Oc.want (K : PySem.W.Frag) (C : Addr) (B H : Hp) (b dx l : Addr) (cap : Int) (Q : VK) (E : XK) : Oc → Prop
  | .ok row past => ∀ B' H', Ch B H B' H' b l → BM K C B' H' b dx l cap row past → Q .non H'
  | .ex S => ∀ B' H', Grow B H B' H' → E (.ref S) none H'
  | .exP S p => ∀ B' H' d, Grow B H B' H' → H' d = none → E (.ref S) (some d) (upd H' d (.xd [("place", .int p)]))
  | .bad => False
theorem Oc.want.grow {Q : VK} {E : XK} {r : Oc} (g : Grow B H B1 H1) (h : r.want K C B H b dx l cap Q E) : r.want K C B1 H1 b dx l cap Q E := by
  cases r with
  | ok row past => exact fun B' H' c m => h B' H' (g.ch c) m
  | ex S => exact fun B' H' g' => h B' H' (g.trans g')
  | exP S p => exact fun B' H' d g' n => h B' H' d (g.trans g') n
  | bad => exact h
/-- a deed -/
def spM (K : PySem.W.Frag) (C : Addr) (n : Nat) (F : Int → List Int → List (List Int) → List D → Oc) : Sp := fun vs H Q E => ∃ (b : Addr) (us : List V) (ds : List D) (B : Hp) (dx l : Addr) (cap : Int) (row : List Int) (past : List (List Int)), vs = .ref b :: us ∧ us.length = n ∧ Same B H ∧ BM K C B H b dx l cap row past ∧
  DL.DpAll K B us ds ∧ row.length ≤ 1000 ∧ past.length ≤ 1000 ∧ (F cap row past ds).want K C B H b dx l cap Q E
theorem spM_len {n : Nat} {F : Int → List Int → List (List Int) → List D → Oc} : ∀ vs H Q E, spM K C n F vs H Q E → vs.length = n + 1 := fun vs H Q E ⟨_, us, _, _, _, _, _, _, _, e, hl, _⟩ => by rw [e, List.length_cons, hl]
end
section
variable {P : Program} {w : World} {K : PySem.W.Frag} {mg : Str → Option Value} {base : Heap}
def keepR : Int → List Int → List (List Int) → List D → Oc := fun _ row past ds => match ds with
  | [.list xs] => match intsD xs with
    | some r => .ok r (past ++ [row])
    | none => .bad
  | [.tuple xs] => match intsD xs with
    | some r => .ok r (past ++ [row])
    | none => .bad
  | _ => .bad
theorem ints_iL : ∀ {xs : List D} {r : List Int}, intsD xs = some r → xs = iL r := fun {xs r} h => by
  induction xs generalizing r with
  | nil => cases h; rfl
  | cons d xs ih =>
    cases d with
    | int i =>
      obtain ⟨z, e1, rfl⟩ := Option.map_eq_some_iff.mp (show (intsD xs).map (i :: ·) = some r from h)
      rw [ih e1]; rfl
    | _ => cases h
theorem intsD_iL {r : List Int} : intsD (iL r) = some r := intsD_map r
theorem keep_list {cap : Int} {row r : List Int} {past : List (List Int)} : keepR cap row past [.list (iL r)] = .ok r (past ++ [row]) := by
  show (match intsD (iL r) with | some r => Oc.ok r (past ++ [row]) | none => .bad) = _
  rw [intsD_iL]
theorem keep_tup {cap : Int} {row r : List Int} {past : List (List Int)} : keepR cap row past [.tuple (iL r)] = .ok r (past ++ [row]) := by
  show (match intsD (iL r) with | some r => Oc.ok r (past ++ [row]) | none => .bad) = _
  rw [intsD_iL]
/-- tuple(x) -/
theorem tup_read {σ : L2.St} {B H : Hp} {i : Nat} {u : V} {d z : D} {Q : VK} (hi : σ[i]? = some (some u)) (sB : Same B H) (du : DL.Dp K B u d) (ht : tupleD [d] = some z) (q : ∀ v B' H', Grow B H B' H' → DL.Dp K B' v z → Q v H') :
    tCB (fun xs H Q => ∃ p ys, xs = [.ref p] ∧ ((SqL K H p ys ∧ ∀ l, H l = none → Q (.ref l) (upd H l (.tup ys))) ∨ (SqT K H p ys ∧ Q (.ref p) H))) (tCons (tVar i) tNil) σ H Q :=
  ⟨u, hi, d_tuple B H [u] [d] _ _ sB (.cons du .nil) ht q⟩
theorem ok_keep (T : TX K mg) (Z : TB K mg) : FnOk P w K mg base (L2N.CX P w) 1 Z.f_keep Z.d_keep ["self", "row"] (spM K Z.C 1 keepR) := by
  refine okM (k := 0) Z.F_keep sc_b_keep spM_len fun cdv A l0 s H vs Q E hr h => ⟨_, pss_cons (ps_expr (pe_bm PySem.F.plainAttrs_list PySem.F.slot_list_append PySem.F.type_list_append mt_append (pe_fld (pv 0) rfl) (pa_cons (pe_fld (pv 0) rfl) pa_nil)))
    (pss_one (ps_fld (pv 0) (pe_callTy (call_tupleK (K := K) rfl) (by rfl) T.b_tuple (by decide +kernel) (pa_cons (pv 1) pa_nil)) rfl)), ?_⟩
  obtain ⟨b, us, ds, B, dx, l, cap, row, past, rfl, hl, sB, bm, da, hn, hp, h⟩ := h
  match us, ds, hl, da with
  | [u], [d], _, .cons du .nil =>
    obtain ⟨r, hw, ht⟩ : ∃ r, (Oc.ok r (past ++ [row])).want K Z.C B H b dx l cap Q E ∧ tupleD [d] = some (.tuple (iL r)) := by
      unfold keepR at h
      split at h
      · rename_i xs e
        cases e
        cases hi : intsD xs with
        | none => rw [hi] at h; exact h.elim
        | some r => rw [hi] at h; exact ⟨r, h, by rw [ints_iL hi]; rfl⟩
      · rename_i xs e
        cases e
        cases hi : intsD xs with
        | none => rw [hi] at h; exact h.elim
        | some r => rw [hi] at h; exact ⟨r, h, by rw [ints_iL hi]; rfl⟩
      · exact h.elim
    obtain ⟨vN, vs, h1, h2, h3, h4⟩ := bm.ob
    have hlen : vs.length < sizeLine := by rw [dpAll_len h4, List.length_map, sizeLine_eq]; omega
    refine ⟨.ref b, rfl, b, _, dx, _, .ref l, rfl, h1, Z.cl, Z.nF, bfl_former, .inl ⟨rfl, _, SqL.of h3⟩, .ref b, rfl, b, _, dx, _, vN, rfl, h1, Z.cl, Z.nN, bfl_now, l, vs, vN, rfl, rfl, h3, hlen, ?_⟩
    have nl : ∀ {a o}, B a = some o → a ≠ l := fun {a o} e z => by rw [z, bm.nl] at e; cases e
    have sB1 : Same B (upd H l (.lst (vs ++ [vN]))) := fun a o e => by rw [upd_ne (nl e)]; exact sB a o e
    dsimp only
    unfold sFld
    refine tup_read (i := 1) rfl sB1 du ht fun v B' H' g dv => ?_
    have hb' : H' b = some (.ins Z.C dx (bfl cap vN l)) := g.hh _ _ (by rw [upd_ne bm.ne]; exact h1)
    have hl' : H' l = some (.lst (vs ++ [vN])) := g.hh _ _ upd_same
    have nb' : B' b = none := g.at_none bm.nb (show upd H l (.lst (vs ++ [vN])) b = some _ by rw [upd_ne bm.ne]; exact h1)
    have nl' : B' l = none := g.at_none bm.nl upd_same
    refine ⟨.ref b, rfl, b, Z.C, dx, _, rfl, hb', Z.cl, Z.nN, (by show 3 < 1000; decide), ?_⟩
    rw [bfl_put]
    refine hw B' _ ⟨g.bb, fun a o e => ?_, fun a o n1 n2 e => ?_, fun a o e n => ?_⟩ ⟨⟨v, vs ++ [vN], upd_same, dv, ?_, ?_⟩, nb', nl'⟩
    · rw [upd_ne (fun z => by rw [z, nb'] at e; cases e)]; exact g.bh a o e
    · rw [upd_ne n1]; exact g.hh a o (by rw [upd_ne n2]; exact e)
    · have z := g.fresh a o e n
      by_cases hal : a = l
      · rw [hal, upd_same] at z; cases z
      · rw [upd_ne hal] at z; exact z
    · rw [upd_ne (Ne.symm bm.ne)]; exact hl'
    · rw [List.map_append]
      exact dpAll_append (dpAll_mono g.bb _ _ h4) (.cons (dp_mono g.bb _ _ h2) .nil)
end
end X
/-! X41m: put, take. -/
namespace X
open PySem PySem.Spec PyProof.Rows L2 DL DM EX
def putR (SN SF : Addr) : Int → List Int → List (List Int) → List D → Oc := fun cap row past ds => match ds with
  | [d] => match good row.length d with
    | some p => if gI row p = cap then .exP SF p else .ok (row.set p (gI row p + 1)) (past ++ [row])
    | none => .ex SN
  | _ => .bad
def takeR (SN SE : Addr) : Int → List Int → List (List Int) → List D → Oc := fun cap row past ds => match ds with
  | [d] => match good row.length d with
    | some p => if gI row p = 0 then .exP SE p else .ok (row.set p (gI row p - 1)) (past ++ [row])
    | none => .ex SN
  | _ => .bad
section
variable {P : Program} {w : World} {K : PySem.W.Frag} {mg : Str → Option Value} {base : Heap}
theorem ok_iFull (U : TC K mg) (R : TR K mg U) : FnOk P w K mg base CX0 1 R.fi_Full R.di_Full ["self", "place"] (spFI K U.C_Full) := by
  refine R.FI_Full.ok sc_iFull (fun vs H Q E ⟨_, _, e, _⟩ => by rw [e]; rfl) fun cdv A l s H vs Q E hr h => ⟨_, pss_cons (ps_expr (pe_ninit (x := "NowError") R.nb (by rfl) U.g_NowError (pa_cons (pv 0) (pa_cons pe_str pa_nil)))) (pss_one (ps_ost (pv 0) (pv 1))), ?_⟩
  obtain ⟨a, v, rfl, T, n, ha, q⟩ := h
  exact fi_read rfl rfl T n ha q
theorem ok_iEmpty (U : TC K mg) (R : TR K mg U) : FnOk P w K mg base CX0 1 R.fi_Empty R.di_Empty ["self", "place"] (spFI K U.C_Empty) := by
  refine R.FI_Empty.ok sc_iEmpty (fun vs H Q E ⟨_, _, e, _⟩ => by rw [e]; rfl) fun cdv A l s H vs Q E hr h => ⟨_, pss_cons (ps_expr (pe_ninit (x := "NowError") R.nb (by rfl) U.g_NowError (pa_cons (pv 0) (pa_cons pe_str pa_nil)))) (pss_one (ps_ost (pv 0) (pv 1))), ?_⟩
  obtain ⟨a, v, rfl, T, n, ha, q⟩ := h
  exact fi_read rfl rfl T n ha q
section
variable {B H : Hp} {b dx l : Addr} {cap : Int} {row : List Int} {past : List (List Int)} {σ : L2.St} {Q : VK} {E : XK} {D0 : Ends}
/-- self.need_place(x), and on where it is one -/
theorem needP {C : Addr} (SN : Addr) {i j : Nat} {u : V} {d : D} (hi : σ[i]? = some (some (.ref b))) (hj : σ[j]? = some (some u)) (sB : Same B H) (bm : BM K C B H b dx l cap row past) (du : DL.Dp K B u d) (hn : row.length ≤ 1000)
    (q : match good row.length d with
      | some _ => ∀ B' H', Grow B H B' H' → D0.nx σ H'
      | none => ∀ B' H', Grow B H B' H' → E (.ref SN) none H') : tDrop (tMeth C "need_place" (spB K C 1 (need 0 (-1) SN)) [] E (tVar i) (tCons (tVar j) tNil)) D0 σ H := by
  refine methM_read (us := [u]) (ds := [d]) (by decide +kernel) hi sB bm (fun Q' z => ⟨u, hj, z⟩) rfl (.cons du .nil) hn ?_
  have e : need 0 (-1) SN cap row [d] = if btw 0 ((row.length : Int) - 1) d = true then .ok .none else .ex SN := rfl
  rw [e, good_btw]
  cases hf : good row.length d with
  | none => rw [hf] at q; exact fun B' H' g => q B' H' g
  | some f => rw [hf] at q; exact fun v B' H' g _ => q B' H' g
/-- self.keep(self.held(place, m)) -/
theorem tail_keep (Z : TB K mg) {p : Nat} {m : Int} {tm : L2.TE} (hi : σ[0]? = some (some (.ref b))) (hj : σ[1]? = some (some (.int p))) (sB : Same B H) (bm : BM K Z.C B H b dx l cap row past) (hp : p < row.length) (hn : row.length ≤ 1000) (hk : past.length ≤ 1000) (htm : ∀ Q' : VK, Q' (.int m) H → tm σ H Q')
    (hD : ∀ H', Q .non H' → D0.nx σ H') (hw : (Oc.ok (row.set p (gI row p + m)) (past ++ [row])).want K Z.C B H b dx l cap Q C8.E0) :
    tDrop (tMeth Z.C "keep" (spM K Z.C 1 keepR) [] C8.E0 (tVar 0) (tCons (tMeth Z.C "held" (spB K Z.C 2 heldR) [] C8.E0 (tVar 0) (tCons (tVar 1) (tCons tm tNil))) tNil)) D0 σ H := by
  have bm' := bm
  obtain ⟨vN, vs, h1, h2, h3, h4⟩ := bm.ob
  refine ⟨.ref b, hi, b, dx, _, rfl, h1, bfl_no (by decide +kernel), ?_⟩
  unfold tCons
  refine methM_read (us := [.int p, .int m]) (ds := [.int p, .int m]) (by decide +kernel) hi sB bm' (fun Q' z => ⟨.int p, hj, htm _ z⟩) rfl (.cons (.int _) (.cons (.int _) .nil)) hn ?_
  have e : heldR cap row [.int p, .int m] = .ok (.list (iL (row.set p (gI row p + m)))) := by
    show (if 0 ≤ (p : Int) ∧ (p : Int) < row.length then Rs.ok (.list (iL (row.set (p : Int).toNat (gI row (p : Int).toNat + m)))) else .bad) = _
    rw [if_pos ⟨by omega, by omega⟩, show ((p : Int)).toNat = p by omega]
  rw [e]
  intro v B1 H1 g1 d1
  show spM K Z.C 1 keepR [.ref b, v] H1 _ C8.E0
  refine ⟨b, [v], [.list (iL (row.set p (gI row p + m)))], B1, dx, l, cap, row, past, rfl, rfl, g1.bh, bm'.grow g1, .cons d1 .nil, hn, hk, ?_⟩
  rw [keep_list]
  exact fun B' H' c m' => hD H' (hw B' H' (g1.ch c) m')
end
theorem ok_put (T : TX K mg) (U : TC K mg) (Z : TB K mg) (R : TR K mg U) (ZZ : TZ K mg U) : FnOk P w K mg base (L2N.CX P w) 3 Z.f_put Z.d_put ["self", "place"] (spM K Z.C 1 (putR U.C_NoPlace U.C_Full)) := by
  refine okM (k := 2) Z.F_put sc_b_put spM_len fun cdv A l0 s H vs Q E hr h => ⟨_, pss_cons (ps_expr (pe_meth (pv 0) Z.cl Z.M_need_place (ok_need_place T U Z R) (hr.mono (by decide)) (b_b_need_place Z) .nil passE (pa_cons (pv 1) pa_nil)))
    (pss_cons (ps_if (pt_cmpR (op_eqK (K := K) rfl hr.units) (pe_ix (ix_K (K := K) rfl) (pe_fld (pv 0) rfl) (pv 1) (fun _ _ => rfl)) (pe_fld (pv 0) rfl) (nomark _))
      (pss_one (L2N.ps_raise (W := fun c d _ H => E c d H) rfl (L2N.takes_of rfl rfl rfl rfl) (pmkN_oex R.o_Full R.ic_Full R.ti_Full (ok_iFull U R) (hr.mono (by decide)) (b_iFull R) pass0 (by rfl) U.g_Full (pa_cons (pv 1) pa_nil)))) pss_nil)
    (pss_one (ps_expr (pe_meth (pv 0) Z.cl Z.M_keep (ok_keep T Z) (hr.mono (by decide)) (b_b_keep Z) .nil passN (pa_cons (pe_meth (pv 0) Z.cl Z.M_held (ok_held T U Z) (hr.mono (by decide)) (b_b_held Z) .nil passN (pa_cons (pv 1) (pa_cons pe_int pa_nil))) pa_nil))))), ?_⟩
  obtain ⟨b, us, ds, B, dx, l, cap, row, past, rfl, hl, sB, bm, da, hn, hk, h⟩ := h
  match us, ds, hl, da with
  | [u], [d], _, .cons du .nil =>
    refine needP U.C_NoPlace (i := 0) (j := 1) (u := u) (D0 := _) rfl rfl sB bm du hn ?_
    have e : putR U.C_NoPlace U.C_Full cap row past [d] = match good row.length d with | some p => if gI row p = cap then .exP U.C_Full p else .ok (row.set p (gI row p + 1)) (past ++ [row]) | none => .ex U.C_NoPlace := rfl
    rw [e] at h
    cases hf : good row.length d with
    | none => rw [hf] at h; exact fun B' H' g => h B' H' g
    | some p =>
      rw [hf] at h
      dsimp only at h
      obtain ⟨rfl, hp⟩ := good_some hf
      cases dp_int du
      intro B1 H1 g1
      have m1 := bm.grow g1
      obtain ⟨vN, vs, h1, h2, h3, h4⟩ := m1.ob
      refine ⟨.ref b, rfl, b, _, dx, _, vN, rfl, h1, Z.cl, Z.nN, bfl_now, .int p, rfl, ?_⟩
      refine d_ix B1 H1 vN (.int p) (.tuple (iL row)) (.int p) (.int (gI row p)) _ g1.bh h2 (.int _) (by rw [ev_ixT]; exact atI_iL hp) fun v B2 H2 g2 dv => ?_
      have m2 := m1.grow g2
      obtain ⟨vN2, vs2, h12, h22, _, _⟩ := m2.ob
      refine ⟨.ref b, rfl, b, _, dx, _, .int cap, rfl, h12, Z.cl, Z.nC, bfl_cap, ?_⟩
      refine d_eq B2 H2 v (.int cap) (.int (gI row p)) (.int cap) _ _ g2.bh dv (.int cap) eqD_int fun v3 B3 H3 g3 d3 => ⟨_, dp_bool d3, ?_⟩
      have g13 := (g1.trans g2).trans g3
      by_cases hc : gI row p = cap
      · rw [if_pos hc] at h
        dsimp only
        rw [decide_eq_true hc, if_pos rfl]
        exact mko_read (i := 1) rfl R.o_Full ZZ.noFull fun d nd => h B3 H3 d g13 nd
      · rw [if_neg hc] at h
        dsimp only
        rw [decide_eq_false hc, if_neg Bool.false_ne_true]
        exact tail_keep Z (p := p) (m := 1) rfl rfl g13.bh (m2.grow g3) hp hn hk (fun Q' z => z) (fun H' z => z) (Oc.want.grow (r := .ok _ _) g13 h)
theorem ok_take (T : TX K mg) (U : TC K mg) (Z : TB K mg) (R : TR K mg U) (ZZ : TZ K mg U) : FnOk P w K mg base (L2N.CX P w) 3 Z.f_take Z.d_take ["self", "place"] (spM K Z.C 1 (takeR U.C_NoPlace U.C_Empty)) := by
  refine okM (k := 2) Z.F_take sc_b_take spM_len fun cdv A l0 s H vs Q E hr h => ⟨_, pss_cons (ps_expr (pe_meth (pv 0) Z.cl Z.M_need_place (ok_need_place T U Z R) (hr.mono (by decide)) (b_b_need_place Z) .nil passE (pa_cons (pv 1) pa_nil)))
    (pss_cons (ps_if (pt_cmpR (op_eqK (K := K) rfl hr.units) (pe_ix (ix_K (K := K) rfl) (pe_fld (pv 0) rfl) (pv 1) (fun _ _ => rfl)) pe_int (nomark _))
      (pss_one (L2N.ps_raise (W := fun c d _ H => E c d H) rfl (L2N.takes_of rfl rfl rfl rfl) (pmkN_oex R.o_Empty R.ic_Empty R.ti_Empty (ok_iEmpty U R) (hr.mono (by decide)) (b_iEmpty R) pass0 (by rfl) U.g_Empty (pa_cons (pv 1) pa_nil)))) pss_nil)
    (pss_one (ps_expr (pe_meth (pv 0) Z.cl Z.M_keep (ok_keep T Z) (hr.mono (by decide)) (b_b_keep Z) .nil passN (pa_cons (pe_meth (pv 0) Z.cl Z.M_held (ok_held T U Z) (hr.mono (by decide)) (b_b_held Z) .nil passN (pa_cons (pv 1) (pa_cons (pe_un un_neg pe_int) pa_nil))) pa_nil))))), ?_⟩
  obtain ⟨b, us, ds, B, dx, l, cap, row, past, rfl, hl, sB, bm, da, hn, hk, h⟩ := h
  match us, ds, hl, da with
  | [u], [d], _, .cons du .nil =>
    refine needP U.C_NoPlace (i := 0) (j := 1) (u := u) (D0 := _) rfl rfl sB bm du hn ?_
    have e : takeR U.C_NoPlace U.C_Empty cap row past [d] = match good row.length d with | some p => if gI row p = 0 then .exP U.C_Empty p else .ok (row.set p (gI row p - 1)) (past ++ [row]) | none => .ex U.C_NoPlace := rfl
    rw [e] at h
    cases hf : good row.length d with
    | none => rw [hf] at h; exact fun B' H' g => h B' H' g
    | some p =>
      rw [hf] at h
      dsimp only at h
      obtain ⟨rfl, hp⟩ := good_some hf
      cases dp_int du
      intro B1 H1 g1
      have m1 := bm.grow g1
      obtain ⟨vN, vs, h1, h2, h3, h4⟩ := m1.ob
      refine ⟨.ref b, rfl, b, _, dx, _, vN, rfl, h1, Z.cl, Z.nN, bfl_now, .int p, rfl, ?_⟩
      refine d_ix B1 H1 vN (.int p) (.tuple (iL row)) (.int p) (.int (gI row p)) _ g1.bh h2 (.int _) (by rw [ev_ixT]; exact atI_iL hp) fun v B2 H2 g2 dv => ?_
      have m2 := m1.grow g2
      unfold tC
      refine d_eq B2 H2 v (.int 0) (.int (gI row p)) (.int 0) _ _ g2.bh dv (.int 0) eqD_int fun v3 B3 H3 g3 d3 => ⟨_, dp_bool d3, ?_⟩
      have g13 := (g1.trans g2).trans g3
      by_cases hc : gI row p = 0
      · rw [if_pos hc] at h
        dsimp only
        rw [decide_eq_true hc, if_pos rfl]
        exact mko_read (i := 1) rfl R.o_Empty ZZ.noEmpty fun d nd => h B3 H3 d g13 nd
      · rw [if_neg hc] at h
        dsimp only
        rw [decide_eq_false hc, if_neg Bool.false_ne_true]
        exact tail_keep Z (p := p) (m := -1) rfl rfl g13.bh (m2.grow g3) hp hn hk (fun Q' z => ⟨1, rfl, z⟩) (fun H' z => z) (Oc.want.grow (r := .ok _ _) g13 h)
end
end X
/-! X41n: turn, back, exchange. -/
namespace X
open PySem PySem.Spec PyProof.Rows L2 DL DM EX
def turnR : Int → List Int → List (List Int) → List D → Oc := fun _ row past ds => match ds with
  | [] => .ok row.reverse (past ++ [row])
  | _ => .bad
def backR (SL : Addr) : Int → List Int → List (List Int) → List D → Oc := fun _ _ past ds => match ds with
  | [] => match past.getLast? with
    | some r => .ok r past.dropLast
    | none => .ex SL
  | _ => .bad
def exchR (SN : Addr) : Int → List Int → List (List Int) → List D → Oc := fun _ row past ds => match ds with
  | [x, y] => match good row.length x with
    | some p => match good row.length y with
      | some q => .ok ((row.set p (gI row q)).set q (gI row p)) (past ++ [row])
      | none => .ex SN
    | none => .ex SN
  | _ => .bad
theorem iL_rev {row : List Int} : (iL row).reverse = iL row.reverse := by unfold iL; rw [List.map_reverse]
theorem pln_rowD {r : List Int} : Pln 1 (rowD r) := pln_tup
theorem eq_empty {past : List (List Int)} : eqD (.list (past.map rowD)) (.list []) = some (.bool past.isEmpty) := by
  refine eqD_b (n := 2) (.list fun d hd => ?_) (.list fun d hd => by cases hd) (by decide) ⟨fun z => ?_, fun z => ?_⟩
  · obtain ⟨r, _, rfl⟩ := List.mem_map.mp hd; exact pln_rowD
  · cases past with
    | nil => rfl
    | cons r rs => cases z
  · cases past with
    | nil => rfl
    | cons r rs => cases z
section
variable {P : Program} {w : World} {K : PySem.W.Frag} {mg : Str → Option Value} {base : Heap}
theorem ok_turn (T : TX K mg) (Z : TB K mg) : FnOk P w K mg base (L2N.CX P w) 2 Z.f_turn Z.d_turn ["self"] (spM K Z.C 0 turnR) := by
  refine okM (k := 1) Z.F_turn sc_b_turn spM_len fun cdv A l0 s H vs Q E hr h => ⟨_, pss_one (ps_expr (pe_meth (pv 0) Z.cl Z.M_keep (ok_keep T Z) (hr.mono (by decide)) (b_b_keep Z) .nil passN (pa_cons (pe_revK (K := K) rfl (pe_fld (pv 0) rfl)) pa_nil))), ?_⟩
  obtain ⟨b, us, ds, B, dx, l, cap, row, past, rfl, hl, sB, bm, da, hn, hk, h⟩ := h
  match us, ds, hl, da with
  | [], [], _, .nil =>
    have h : (Oc.ok row.reverse (past ++ [row])).want K Z.C B H b dx l cap Q E := h
    obtain ⟨vN, vs, h1, h2, h3, h4⟩ := bm.ob
    obtain ⟨a, xs, rfl, ha, dxs⟩ := dp_tuple h2
    refine ⟨.ref b, rfl, b, dx, _, rfl, h1, bfl_no (by decide +kernel), .ref b, rfl, b, _, dx, _, .ref a, rfl, h1, Z.cl, Z.nN, bfl_now, a, xs, rfl, SqT.of (sB _ _ ha), (by rw [dpAll_len dxs, iL_len, sizeLine_eq]; omega), fun p np => ?_⟩
    obtain ⟨g, dp⟩ := Grow.newTup (K := K) (vs := xs.reverse) (ds := (iL row).reverse) sB np (dpAll_rev dxs)
    rw [iL_rev] at dp
    show spM K Z.C 1 keepR [.ref b, .ref p] _ _ C8.E0
    refine ⟨b, [.ref p], [.tuple (iL row.reverse)], _, dx, l, cap, row, past, rfl, rfl, g.bh, bm.grow g, .cons dp .nil, hn, hk, ?_⟩
    rw [keep_tup]
    exact fun B' H' c m' => h B' H' (g.ch c) m'
theorem ok_back (T : TX K mg) (U : TC K mg) (Z : TB K mg) (R : TR K mg U) : FnOk P w K mg base (L2N.CX P w) 1 Z.f_back Z.d_back ["self"] (spM K Z.C 0 (backR U.C_NothingLeft)) := by
  refine okM (k := 0) Z.F_back sc_b_back spM_len fun cdv A l0 s H vs Q E hr h => ⟨_, pss_cons (ps_if (pt_cmpR (op_eqK (K := K) rfl hr.units) (pe_fld (pv 0) rfl) (pe_lst pa_nil) (nomark _)) (pss_one (L2N.ps_raise (W := fun c d _ H => E c d H) rfl (L2N.takes_of rfl rfl rfl rfl) (L2N.pmk_own PySem.F.excBase_ValueError R.x_NothingLeft U.g_NothingLeft R.k_NothingLeft (raises_own R.b_NothingLeft U.t_NothingLeft) (by rfl)))) pss_nil)
    (pss_one (ps_fld (pv 0) (pe_bm0 PySem.F.plainAttrs_list PySem.F.slot_list_pop PySem.F.type_list_pop mt_pop (pe_fld (pv 0) rfl)) rfl)), ?_⟩
  obtain ⟨b, us, ds, B, dx, l, cap, row, past, rfl, hl, sB, bm, da, hn, hk, h⟩ := h
  match us, ds, hl, da with
  | [], [], _, .nil =>
    have h : Oc.want K Z.C B H b dx l cap Q E (match past.getLast? with | some r => .ok r past.dropLast | none => .ex U.C_NothingLeft) := h
    obtain ⟨vN, vs, h1, h2, h3, h4⟩ := bm.ob
    refine ⟨.ref b, rfl, b, _, dx, _, .ref l, rfl, h1, Z.cl, Z.nF, bfl_former, by decide, fun q nq => ?_⟩
    have sq : Same H (upd H q (.lst [])) := same_new nq
    have qB : B q = none := sB.free nq
    have ql : l ≠ q := fun z => by rw [← z, h3] at nq; cases nq
    have sb1 : Same (upd B l (.lst vs)) H := same_put sB h3
    have nq1 : upd B l (.lst vs) q = none := by rw [upd_ne (Ne.symm ql)]; exact qB
    have sb2 : Same (upd (upd B l (.lst vs)) q (.lst [])) (upd H q (.lst [])) := (Grow.new sb1 nq).bh
    have dl : DL.Dp K (upd (upd B l (.lst vs)) q (.lst [])) (.ref l) (.list (past.map rowD)) := .lst (by rw [upd_ne ql, upd_same]) (dpAll_mono ((same_upd bm.nl).trans (same_upd nq1)) _ _ h4)
    refine d_eq _ _ (.ref l) (.ref q) (.list (past.map rowD)) (.list []) _ _ sb2 dl (.lst upd_same .nil) eq_empty fun v B2 H2 g2 dv => ⟨_, dp_bool dv, ?_⟩
    have g : Grow B H B H2 := grow_same sB (sq.trans g2.hh)
    have m2 := bm.grow g
    cases hp : past.getLast? with
    | none =>
      rw [hp] at h
      have : past.isEmpty = true := by rw [List.getLast?_eq_none_iff.mp hp]; rfl
      dsimp only
      rw [this, if_pos rfl]
      exact h B H2 g
    | some r =>
      rw [hp] at h
      have hne : past ≠ [] := fun z => by rw [z] at hp; cases hp
      have : past.isEmpty = false := by cases past with | nil => exact absurd rfl hne | cons _ _ => rfl
      dsimp only
      rw [this, if_neg Bool.false_ne_true]
      unfold tNext
      dsimp only
      unfold sFld
      obtain ⟨vN2, vs2, h12, h22, h32, h42⟩ := m2.ob
      have lv : vs2.length = past.length := by rw [dpAll_len h42, List.length_map]
      have hr0 : (past.map rowD)[past.length - 1]? = some (rowD r) := by rw [List.getElem?_map, ← List.getLast?_eq_getElem?, hp]; rfl
      obtain ⟨y, hy, dy⟩ := dpAll_get h42 hr0
      refine ⟨.ref b, rfl, b, _, dx, _, .ref l, rfl, h12, Z.cl, Z.nF, bfl_former, .inl ⟨rfl, _, SqL.of h32⟩, l, vs2, y, rfl, rfl, h32, (by rw [lv]; exact hy), .ref b, rfl, b, Z.C, dx, _, rfl, (by rw [upd_ne bm.ne]; exact h12), Z.cl, Z.nN, (by show 3 < 1000; decide), ?_⟩
      rw [bfl_put]
      have nb : ∀ {a o}, B a = some o → a ≠ b := fun {a o} e z => by rw [z, bm.nb] at e; cases e
      have nl : ∀ {a o}, B a = some o → a ≠ l := fun {a o} e z => by rw [z, bm.nl] at e; cases e
      refine h B _ ⟨Same.refl B, fun a o e => ?_, fun a o n1 n2 e => ?_, fun a o e n => by rw [e] at n; cases n⟩ ⟨⟨y, vs2.dropLast, upd_same, dy, ?_, ?_⟩, bm.nb, bm.nl⟩
      · rw [upd_ne (nb e), upd_ne (nl e)]; exact g.bh a o e
      · rw [upd_ne n1, upd_ne n2]; exact g.hh a o e
      · rw [upd_ne (Ne.symm bm.ne), upd_same]
      · rw [List.dropLast_eq_take, List.dropLast_eq_take, List.map_take, lv]
        exact dpAll_take _ h42
end
end X
/-! X41o: exchange. -/
namespace X
open PySem PySem.Spec PyProof.Rows L2 DL DM EX
theorem swap_ev {v0 : V} {row : List Int} {p q : Nat} (hp : p < row.length) (hq : q < row.length) :
    EX.sSwap 3 (sV 1) (sV 2) (sIxO 3 (sV 2)) (sIxO 3 (sV 1)) [.op v0, .im (.int p), .im (.int q), .ol (iL row)] (0, 0) = some (.nx, [.op v0, .im (.int p), .im (.int q), .ol (iL ((row.set p (gI row q)).set q (gI row p)))], (0, 0)) := by
  have g1 : atI (iL row) (p : Int) = some (.int (gI row p)) := atI_iL hp
  have g2 : atI (iL row) (q : Int) = some (.int (gI row q)) := atI_iL hq
  have x1 : ixN (iL row).length (p : Int) = some p := ixN_nat (by rw [iL_len]; exact hp)
  have x2 : ixN (iL (row.set p (gI row q))).length (q : Int) = some q := ixN_nat (by rw [iL_len, List.length_set]; exact hq)
  unfold EX.sSwap EX.putI
  simp only [ev_sIxO, ev_sV, List.getElem?_cons_succ, List.getElem?_cons_zero, Option.bind_some, g1, g2, x1, iL_set', List.set_cons_succ, List.set_cons_zero, x2]
section
variable {P : Program} {w : World} {K : PySem.W.Frag} {mg : Str → Option Value} {base : Heap}
theorem grow_fwS {B H B' H' : Hp} {σ σ' : L2.St} {ρ ρ' : Rho} (y : FwS none B σ H ρ B' σ' H' ρ') (s : Same B' H') (no : ∀ a, ¬ Owned ρ σ a) : Grow B H B' H' :=
  ⟨y.bb, s, fun a o e => y.keep a o (fun z => nomatch z) e (no a), fun a o e n => (y.fresh a o e n).elim id fun u => absurd u (no a)⟩
theorem ok_exchange (T : TX K mg) (U : TC K mg) (Z : TB K mg) (R : TR K mg U) : FnOk P w K mg base (L2N.CX P w) 3 Z.f_exchange Z.d_exchange ["self", "place", "other"] (spM K Z.C 2 (exchR U.C_NoPlace)) := by
  refine okM (k := 2) Z.F_exchange sc_b_exchange spM_len fun cdv A l0 s H vs Q E hr h => ⟨_, pss_cons (ps_expr (pe_meth (pv 0) Z.cl Z.M_need_place (ok_need_place T U Z R) (hr.mono (by decide)) (b_b_need_place Z) .nil passE (pa_cons (pv 1) pa_nil)))
    (pss_cons (ps_expr (pe_meth (pv 0) Z.cl Z.M_need_place (ok_need_place T U Z R) (hr.mono (by decide)) (b_b_need_place Z) .nil passE (pa_cons (pv 2) pa_nil)))
    (pss_cons (ps_set (i := 3) sc_b_exchange.nd rfl (by first | exact Or.inl rfl | exact Or.inr rfl) (pe_callTy (call_listK (K := K) rfl) (by rfl) T.b_list (by decide +kernel) (pa_cons (pe_fld (pv 0) rfl) pa_nil)))
    (pss_cons (ps_asg (pe_tup (pa_cons (pe_ix (ix_K (K := K) rfl) (pv 3) (pv 2) (fun _ _ => rfl)) (pa_cons (pe_ix (ix_K (K := K) rfl) (pv 3) (pv 1) (fun _ _ => rfl)) pa_nil))) (pg_tupK (K := K) (n := 2) rfl (by rfl) (pgs_cons (pg_sub (pv 3) (pv 1) set_list) (pgs_cons (pg_sub (pv 3) (pv 2) set_list) pgs_nil))))
    (pss_one (ps_expr (pe_meth (pv 0) Z.cl Z.M_keep (ok_keep T Z) (hr.mono (by decide)) (b_b_keep Z) .nil passN (pa_cons (pv 3) pa_nil))))))), ?_⟩
  obtain ⟨b, us, ds, B, dx, l, cap, row, past, rfl, hl, sB, bm, da, hn, hk, h⟩ := h
  match us, ds, hl, da with
  | [u1, u2], [d1, d2], _, .cons du1 (.cons du2 .nil) =>
    have hw : Oc.want K Z.C B H b dx l cap Q E (match good row.length d1 with | some p => (match good row.length d2 with | some q => .ok ((row.set p (gI row q)).set q (gI row p)) (past ++ [row]) | none => .ex U.C_NoPlace) | none => .ex U.C_NoPlace) := h
    clear h
    refine needP U.C_NoPlace (i := 0) (j := 1) (u := u1) (D0 := _) rfl rfl sB bm du1 hn ?_
    cases hf1 : good row.length d1 with
    | none => rw [hf1] at hw; exact fun B' H' g => hw B' H' g
    | some p =>
      rw [hf1] at hw
      dsimp only at hw
      intro B1 H1 g1
      have m1 := bm.grow g1
      dsimp only
      unfold tSeq
      refine needP U.C_NoPlace (i := 0) (j := 2) (u := u2) (D0 := _) (E := E) rfl rfl g1.bh m1 (dp_mono g1.bb _ _ du2) hn ?_
      cases hf2 : good row.length d2 with
      | none => rw [hf2] at hw; exact fun B' H' g => hw B' H' (g1.trans g)
      | some q =>
        rw [hf2] at hw
        dsimp only at hw
        obtain ⟨rfl, hp⟩ := good_some hf1
        obtain ⟨rfl, hq⟩ := good_some hf2
        intro B2 H2 g2
        have m2 := m1.grow g2
        have g12 := g1.trans g2
        obtain ⟨vN, vs, h1, h2, h3, h4⟩ := m2.ob
        obtain ⟨a, xs, rfl, ha, dxs⟩ := dp_tuple h2
        have R0 := rl_startO (K := K) (N := Nb_exchange) (n := 1) (v0 := .ref b) g2.bh (.cons (dp_mono g12.bb _ _ du1) (.cons (dp_mono g12.bb _ _ du2) .nil)) rfl
        have no0 := noOwn_startO (vs := [u1, u2]) (ds := [PyData.int (p : Int), .int (q : Int)]) (n := 1) (v0 := .ref b) (N := Nb_exchange) (σ := L2.start Nb_exchange [.ref b, u1, u2])
        refine ⟨.ref b, rfl, b, _, dx, _, .ref a, rfl, h1, Z.cl, Z.nN, bfl_now, a, xs, rfl, .inr (SqT.of (g2.bh _ _ ha)), fun c nc => ?_⟩
        obtain ⟨R1, f1⟩ := R0.setOl (i := 3) nc dxs
        refine EX.imp_swap (K := K) (i := 3) (imp_v 1) (imp_v 2) (imp_ixO (i := 3) (imp_v 2)) (imp_ixO (i := 3) (imp_v 1)) none B2 _ _ _ (0, 0) _ _ R1 (swap_ev hp hq) fun B3 σ3 H3 R3 f3 => ?_
        obtain ⟨B4, R4, f4, _⟩ := R3.frz (i := 3) rfl
        obtain ⟨v, ev, dv⟩ := R4.slot 3 _ rfl
        have f : FwS none B2 _ H2 _ B4 σ3 H3 _ := FwS.trans R0 R1 f1 (FwS.trans R1 R3 f3 f4)
        have g := grow_fwS f R4.sub no0
        have m4 := m2.grow g
        obtain ⟨vN4, vs4, k1, k2, k3, k4⟩ := m4.ob
        have s0 : σ3[0]? = some (some (.ref b)) := R4.slot 0 (.op (.ref b)) rfl
        refine ⟨.ref b, s0, b, dx, _, rfl, k1, bfl_no (by decide +kernel), v, ev, ?_⟩
        show spM K Z.C 1 keepR [.ref b, v] H3 _ C8.E0
        refine ⟨b, [v], [.list (iL ((row.set p (gI row q)).set q (gI row p)))], B4, dx, l, cap, row, past, rfl, rfl, R4.sub, m4, .cons dv .nil, hn, hk, ?_⟩
        rw [keep_list]
        exact fun B' H' c' m' => hw B' H' ((g12.trans g).ch c') m'
end
end X
/-! X41p: __init__. -/
namespace X
open PySem PySem.Spec PyProof.Rows L2 DL DM EX
/-- a bench made at b -/
def InitOk (K : PySem.W.Frag) (C : Addr) (B H : Hp) (b dx : Addr) (cap : Int) (row : List Int) (Q : VK) : Prop := ∀ B' H' l, Same B B' → Same B' H' → (∀ a o, a ≠ b → H a = some o → H' a = some o) → (∀ a o, B' a = some o → B a = none → H a = none) → H l = none → BM K C B' H' b dx l cap row [] → Q .non H'
def spI (K : PySem.W.Frag) (C SC SR : Addr) : Sp := fun vs H Q E => ∃ (b dx : Addr) (u v : V) (dc dr : D) (B : Hp), vs = [.ref b, u, v] ∧ Same B H ∧ B b = none ∧ H b = some (.ins C dx []) ∧ DL.Dp K B u dc ∧ DL.Dp K B v dr ∧
  ((btw 1 9 dc = false ∧ ∀ B' H', Grow B H B' H' → E (.ref SC) none H') ∨
   (∃ cap : Int, dc = .int cap ∧ btw 1 9 dc = true ∧ (∀ xs, dr = .tuple xs → xs.length ≤ 1000000) ∧ rowB cap dr = false ∧ ∀ B' H', Grow B H B' H' → E (.ref SR) none H') ∨
   ∃ (cap : Int) (row : List Int), dc = .int cap ∧ btw 1 9 dc = true ∧ dr = rowD row ∧ row.length ≤ 1000 ∧ rowB cap dr = true ∧ InitOk K C B H b dx cap row Q)
section
variable {P : Program} {w : World} {K : PySem.W.Frag} {mg : Str → Option Value} {base : Heap}
/-- if not is_row(cap, row): raise -/
theorem row_read {tr : TS} {D0 : Ends} {σ : L2.St} {B H : Hp} {u v : V} {cap : Int} {d : D} (hu : σ[1]? = some (some u)) (hv : σ[2]? = some (some v)) (sB : Same B H) (du : DL.Dp K B u (.int cap)) (dv : DL.Dp K B v d) (hd : ∀ xs, d = .tuple xs → xs.length ≤ 1000000)
    (q : if rowB cap d = true then ∀ B' H', Grow B H B' H' → D0.nx σ H' else ∀ B' H', Grow B H B' H' → tr D0 σ H') : tIfS (tNot (tTest (tCall (spP K F_is_row) [] C8.E0 (tCons (tVar 1) (tCons (tVar 2) tNil))))) tr tNext D0 σ H := by
  refine ⟨u, hu, v, hv, [.int cap, d], B, .bool (rowB cap d), sB, .cons du (.cons dv .nil), F_is_row_eq hd, fun v B' H' g dv => ⟨_, dp_bool dv, ?_⟩⟩
  cases hb : rowB cap d with
  | true => rw [if_pos hb] at q; exact q B' H' g
  | false => rw [hb, if_neg Bool.false_ne_true] at q; exact q B' H' g
theorem put1 {u v : V} : putF "now" v (putF "cap" u []) = [(("cap" : Str), u), (("now" : Str), v)] := by
  show (if ("cap" : Str) = "now" then _ else (("cap" : Str), u) :: putF "now" v []) = _
  rw [if_neg (fun z => bne.1 z.symm)]
  rfl
theorem put2 {cap : Int} {v : V} {l : Addr} : putF "former" (.ref l) (putF "now" v (putF "cap" (.int cap) [])) = bfl cap v l := by
  rw [put1]
  show (if ("cap" : Str) = "former" then _ else (("cap" : Str), V.int cap) :: (if ("now" : Str) = "former" then _ else (("now" : Str), v) :: putF "former" (.ref l) [])) = _
  rw [if_neg (fun z => bne.2.1 z.symm), if_neg (fun z => bne.2.2 z.symm)]
  rfl
theorem ok_init (T : TX K mg) (U : TC K mg) (Z : TB K mg) (R : TR K mg U) : FnOk P w K mg base (L2N.CX P w) 3 Z.f_init Z.d_init ["self", "cap", "row"] (spI K Z.C U.C_NoCap U.C_NoRow) := by
  refine okM (k := 2) Z.F_init sc_b_init (fun vs H Q E ⟨_, _, _, _, _, _, _, e, _⟩ => by rw [e]; rfl) fun cdv A l0 s H vs Q E hr h => ⟨_, pss_cons (ps_if (pt_not (pt_val (pe_call (ok_is_between T) (hr.mono (by decide)) (by rfl) T.g_is_between T.F_is_between.kp (b_is_between T) .nil pass0 (pa_cons (pv 1) (pa_cons pe_int (pa_cons (pe_glob (v := .int 9) (by rfl) Z.mcap ⟨_, rfl⟩) pa_nil))))))
      (pss_one (L2N.ps_raise (W := fun c d _ H => E c d H) rfl (L2N.takes_of rfl rfl rfl rfl) (L2N.pmk_own PySem.F.excBase_ValueError R.x_NoCap U.g_NoCap R.k_NoCap (raises_own R.b_NoCap U.t_NoCap) (by rfl)))) pss_nil)
    (pss_cons (ps_if (pt_not (pt_val (pe_call (ok_is_row T) (hr.mono (by decide)) (by rfl) T.g_is_row T.F_is_row.kp (b_is_row T) .nil pass0 (pa_cons (pv 1) (pa_cons (pv 2) pa_nil)))))
      (pss_one (L2N.ps_raise (W := fun c d _ H => E c d H) rfl (L2N.takes_of rfl rfl rfl rfl) (L2N.pmk_own PySem.F.excBase_ValueError R.x_NoRow U.g_NoRow R.k_NoRow (raises_own R.b_NoRow U.t_NoRow) (by rfl)))) pss_nil)
    (pss_cons (ps_fld (pv 0) (pv 1) rfl) (pss_cons (ps_fld (pv 0) (pv 2) rfl) (pss_one (ps_fld (pv 0) (pe_lst pa_nil) rfl))))), ?_⟩
  obtain ⟨b, dx, u, v, dc, dr, B, rfl, sB, nb, hb, du, dv, h⟩ := h
  refine need_read (hi := 9) (x := u) rfl sB du (fun Q' q => q) ?_
  rcases h with ⟨h1, h2⟩ | ⟨cap, rfl, h1, hd, h2, h3⟩ | ⟨cap, row, rfl, h1, rfl, hn, h2, h3⟩
  · rw [h1, if_neg Bool.false_ne_true]
    exact fun B' H' g => h2 B' H' g
  · rw [h1, if_pos rfl]
    intro B1 H1 g1
    dsimp only
    unfold tSeq
    refine row_read (u := u) (v := v) rfl rfl g1.bh (dp_mono g1.bb _ _ du) (dp_mono g1.bb _ _ dv) hd ?_
    rw [h2, if_neg Bool.false_ne_true]
    exact fun B' H' g => h3 B' H' (g1.trans g)
  · rw [h1, if_pos rfl]
    intro B1 H1 g1
    dsimp only
    unfold tSeq
    refine row_read (u := u) (v := v) rfl rfl g1.bh (dp_mono g1.bb _ _ du) (dp_mono g1.bb _ _ dv) (fun xs e => by cases e; rw [iL_len]; omega) ?_
    rw [h2, if_pos rfl]
    intro B2 H2 g2
    have g := g1.trans g2
    cases dp_int du
    have hb2 : H2 b = some (.ins Z.C dx []) := g.hh _ _ hb
    have nb2 : B2 b = none := g.at_none nb hb
    refine ⟨.int cap, rfl, .ref b, rfl, b, Z.C, dx, [], rfl, hb2, Z.cl, Z.nC, (by show 0 < 1000; decide), v, rfl, .ref b, rfl, b, Z.C, dx, _, rfl, upd_same, Z.cl, Z.nN, (by show 1 < 1000; decide), (by show 0 ≤ sizeLine; decide), fun l nl => ?_⟩
    have hbl : b ≠ l := fun z => by rw [← z, upd_same] at nl; cases nl
    have nl2 : H2 l = none := by rw [upd_ne (Ne.symm hbl), upd_ne (Ne.symm hbl)] at nl; exact nl
    refine ⟨.ref b, rfl, b, Z.C, dx, _, rfl, (by rw [upd_ne hbl, upd_same]), Z.cl, Z.nF, (by rw [put1]; show 2 < 1000; decide), ?_⟩
    rw [put2]
    have nbB : ∀ {a o}, B2 a = some o → a ≠ b := fun {a o} e z => by rw [z, nb2] at e; cases e
    have nlB : ∀ {a o}, B2 a = some o → a ≠ l := fun {a o} e z => by
      have := g.bh a o e
      rw [z, nl2] at this; cases this
    refine h3 B2 _ l g.bb (fun a o e => ?_) (fun a o n e => ?_) (fun a o e n => g.fresh a o e n) (g.hh.free nl2) ⟨⟨v, [], upd_same, dp_mono g.bb _ _ dv, ?_, .nil⟩, nb2, ?_⟩
    · rw [upd_ne (nbB e), upd_ne (nlB e), upd_ne (nbB e), upd_ne (nbB e)]; exact g.bh a o e
    · have hl : a ≠ l := fun z => by
        have := g.hh a o e
        rw [z, nl2] at this; cases this
      rw [upd_ne n, upd_ne hl, upd_ne n, upd_ne n]; exact g.hh a o e
    · rw [upd_ne (Ne.symm hbl), upd_same]
    · exact g.bh.free nl2
end
end X
/-! EXp: == and != of an instance by its own __eq__. -/
namespace EX
open PySem PySem.Spec PyProof.Rows L2
section
variable {prog : Program} {w : World} {A : Around} {E : Value → Shared → Prop} {s : Shared} {K : PySem.W.Frag} {x C L f : Addr} {h₀ : Heap} {m : Str → Option Value} {ox : Obj} {od : Option Obj} {b tb : Value}
/-- a special method that is a built-in slot of object -/
theorem ifBound_B {M : Model} {id : String} {name : Str} {args : List Value} {Q : Option Value → Shared → Prop} (X : K.In s.heap) (I : PySem.W.InstAt s.heap x ox C od) (hs : PySem.W.findIn K (.ref C) name = some (some (.builtin id))) (S : Slot "object" name id)
    (h : wpAny M A (call (.builtin id) (.ref x :: args)) (fun v => Q (some v)) E s) : wpAny M A (callSpecialIfBound? (.ref x) name args) Q E s := by
  have fin : wpAny M A (call (.builtin id) ([.ref x] ++ args) >>= fun v => pure (some v)) Q E s := wpAny_bind (wpAny_mono h (fun v s' h' => wpAny_pure h') fun _ _ h' => h')
  unfold callSpecialIfBound? bindSpecialIfBound?
  refine wpAny_holding (wpAny_bind (wpAny_bind (wpAny_bind (I.type.here ((PySem.W.looks_findIn X hs).here ?_)))))
  simp only [S.bind]
  refine wpAny_bind (wpAny_askSetting (wpAny_ite ?_))
  split
  · exact wpAny_bind (wpAny_pure (wpAny_pure fin))
  · exact wpAny_tryCatch (wpAny_bind (wpAny_pure (wpAny_pure fin)))
theorem tryNe {Q : Option Value → Shared → Prop} (hu : A.units + 1 < cLine) (X : K.In s.heap) (I : PySem.W.InstAt s.heap x ox C od) (hne : PySem.W.findIn K (.ref C) "__ne__" = some (some (.builtin "object.__ne__")))
    (he : PySem.W.findIn K (.ref C) "__eq__" = some (some (.ref f))) (hf : PySem.W.isFn K (.ref f) = true) (hm : PySem.W.mroIn K C (.type "object") = some true)
    (h : wpAny (model prog w) A.in1 (call (.ref f) [.ref x, b]) (fun v s' => ∃ k, v = .bool k ∧ Q (some (.bool (!k))) s') E s) : wpAny (model prog w) A (tryCompare (.ref x) "__ne__" b) Q E s := by
  have inst : PySem.W.Looks (model prog w) s.heap (isInstance (.ref x) (.type "object")) true := I.type.andThen (PySem.W.looks_mroIn X hm)
  unfold tryCompare
  refine wpAny_bind (ifBound_B X I hne F.cmp_object.ne (wpAny_call (codeAny_call_builtin F.cmp_object.ne.plain F.cmpEntry_ne (PySem.W.check_slot F.cmpKind_ne F.cmpSplit_ne inst (F.cmpArgs_ne _ _) ?_))))
  unfold Builtin.«object.__ne__»
  refine wpAny_bind (wpAny_of_eq (a := ((Value.ref x : Value), [b])) (by first | rfl | (simp only [slotArgs]; rfl)) ?_)
  refine wpAny_bind (wpAny_cRoomFor (by show A.units + 1 < cLine; exact hu) ?_)
  refine wpAny_bind (PySem.W.ifBound_K X I he hf (wpAny_mono h (fun v s' hv => ?_) fun _ _ e => e))
  obtain ⟨k, rfl, q⟩ := hv
  refine wpAny_bind (wpAny_truthy_bool ?_)
  exact wpAny_pure (wpAny_pure q)
/-- a != b, a an instance with its own __eq__ and no __ne__ -/
theorem ne_own {Q : Value → Shared → Prop} (hu : A.units + 1 < cLine) (X : K.In s.heap) (I : PySem.W.InstAt s.heap x ox C od) (hb : PySem.W.Looks (model prog w) s.heap (typeOf b) tb) (hn : PySem.W.notFirst K C tb = true)
    (hne : PySem.W.findIn K (.ref C) "__ne__" = some (some (.builtin "object.__ne__"))) (he : PySem.W.findIn K (.ref C) "__eq__" = some (some (.ref f))) (hf : PySem.W.isFn K (.ref f) = true) (hm : PySem.W.mroIn K C (.type "object") = some true)
    (h : wpAny (model prog w) A.in1 (call (.ref f) [.ref x, b]) (fun v s' => ∃ k, v = .bool k ∧ Q (.bool (!k)) s') E s) : wpAny (model prog w) A (richCompare .NotEq (.ref x) b) Q E s := by
  have one : wpAny (model prog w) A (tryCompare (.ref x) "__ne__" b) (fun r s' => ∃ v, r = some v ∧ Q v s') E s := tryNe hu X I hne he hf hm (wpAny_mono h (fun v s' ⟨k, e, q⟩ => ⟨k, e, _, rfl, q⟩) fun _ _ e => e)
  unfold richCompare
  simp only [oneThing_ref]
  refine wpAny_holding (wpAny_bind (wpAny_cRoomFor (Nat.lt_of_succ_lt hu) (wpAny_bind (I.type.here (wpAny_bind (hb.here ?_))))))
  split
  · rename_i q
    have e : PySem.W.subIn K tb (.ref C) = some false := by
      rcases Bool.or_eq_true_iff.mp hn with e | e
      · rw [beq_iff_eq.mp e] at q; simp at q
      · exact beq_iff_eq.mp e
    refine wpAny_bind ((PySem.W.looks_subIn X e).here ?_)
    simp only [Bool.false_eq_true, if_false]
    refine wpAny_bind (wpAny_mono one (fun r s' z => ?_) fun _ _ e => e)
    obtain ⟨v, rfl, hq⟩ := z
    exact wpAny_pure hq
  · refine wpAny_bind (wpAny_pure ?_)
    simp only [Bool.false_eq_true, if_false]
    refine wpAny_bind (wpAny_mono one (fun r s' z => ?_) fun _ _ e => e)
    obtain ⟨v, rfl, hq⟩ := z
    exact wpAny_pure hq
end
/-- == and != of an instance of C: its own __eq__ promises sp -/
def rOwn (K : PySem.W.Frag) (C : Addr) (sp : Sp) (E : XK) (neg : Bool) : R2 := fun x y H Q => ∃ (b dx : Addr) (fs : List (Str × V)) (t : Value), x = .ref b ∧ H b = some (.ins C dx fs) ∧ TyX K H y t ∧ PySem.W.notFirst K C t = true ∧ sp [x, y] H (fun v H' => ∃ k, v = .bl k ∧ Q (.bl (if neg = true then !k else k)) H') E
section
variable {X : Cx} {CX : CXT} {C f : Addr} {fd : FuncData} {ps : List Str} {sp : Sp} {E : XK} {k : Nat}
/-- the own __eq__, called from within -/
theorem run_eqO {pins : List (Addr × Obj)} {s : Shared} {σ : L2.St} {H : Hp} {A : Around} {x y : V} {u v : Value} {Q : VK} (F : FnOk X.prog X.w X.K X.mg X.base CX k f fd ps sp) (hb : Binds X.K fd ps []) (hx : Passes CX X E) (hr : Room k A) (hA : A.frames = X.A.frames) (I : Inv X pins σ H s) (rx : RelV x u) (ry : RelV y v) (h : sp [x, y] H Q E) :
    wpAny (model X.prog X.w) A (call (.ref f) [u, v]) (EP X pins σ Q) X.xe s := by
  have e0 : Env0 X.prog X.w X.K X.mg X.base A X.stack s H := by
    have e := I.env0
    exact ⟨by rw [hA]; exact e.frames, e.mod, e.bs, e.bsz, e.funs, e.frf, e.hok, e.bare⟩
  have hl := F.len _ _ _ _ h
  refine wpAny_call (codeAny_mono (F.run A X.stack s H ⟨[u, v], []⟩ [u, v] [x, y] _ E hr e0 (by
    have := hb s [u, v] I.kIn (by simpa using hl)
    simpa using this) (.cons rx (.cons ry .nil)) h) fun rs s' hq => ?_)
  match rs, hq with
  | .error e, z => exact hx pins σ H s e s' I z
  | .ok (.ret w), z => exact I.after z
theorem op_eqO (F : FnOk X.prog X.w X.K X.mg X.base CX k f fd ps sp) (M : Meth X.K C "__eq__" f) (hb : Binds X.K fd ps []) (hr : Room k X.A) (hx : Passes CX X E) : OpR X (compareOp .Eq) (rOwn X.K C sp E false) := by
  rintro pins s σ H x y v u Q I rx ry ⟨b, dx, fs, t, rfl, ha, ty, hn, h⟩
  cases rx
  obtain ⟨mA, J, _⟩ := ins_get I.hok ha
  obtain ⟨od, J, _⟩ := J.look
  obtain ⟨m, hF⟩ := I.fr
  obtain ⟨P, KX, hP, _⟩ := kit_of I ry ty
  have LT := KX.ty (model X.prog X.w) s.heap I.kIn hP
  show wpAny (model X.prog X.w) X.A (richCompare .Eq (.ref b) u) (EP X pins σ Q) X.xe s
  refine PySem.W.cmp_K (op := .Eq) hr.units0 hF I.ok.mod.kin J LT hn M.at_ M.fn (wpAny_mono (run_eqO (x := .ref b) F hb hx hr rfl I rfl ry h) (fun w s' z => ?_) fun _ _ e => e)
  obtain ⟨z, H', I', rz, k, rfl, q⟩ := z
  cases rz
  exact ⟨.bl k, H', I', rfl, q⟩
theorem op_neO (F : FnOk X.prog X.w X.K X.mg X.base CX k f fd ps sp) (M : Meth X.K C "__eq__" f) (hne : PySem.W.findIn X.K (.ref C) "__ne__" = some (some (.builtin "object.__ne__"))) (hm : PySem.W.mroIn X.K C (.type "object") = some true) (hb : Binds X.K fd ps []) (hr : Room (k + 1) X.A) (hx : Passes CX X E) :
    OpR X (compareOp .NotEq) (rOwn X.K C sp E true) := by
  rintro pins s σ H x y v u Q I rx ry ⟨b, dx, fs, t, rfl, ha, ty, hn, h⟩
  cases rx
  obtain ⟨mA, J, _⟩ := ins_get I.hok ha
  obtain ⟨od, J, _⟩ := J.look
  obtain ⟨m, hF⟩ := I.fr
  obtain ⟨P, KX, hP, _⟩ := kit_of I ry ty
  have LT := KX.ty (model X.prog X.w) s.heap I.kIn hP
  show wpAny (model X.prog X.w) X.A (richCompare .NotEq (.ref b) u) (EP X pins σ Q) X.xe s
  refine ne_own (by have := hr.un; omega) I.kIn J LT hn hne M.at_ M.fn hm (wpAny_mono (run_eqO (x := .ref b) F hb hx hr.in1 rfl I rfl ry h) (fun w s' z => ?_) fun _ _ e => e)
  obtain ⟨z, H', I', rz, k, rfl, q⟩ := z
  cases rz
  exact ⟨k, rfl, .bl (!k), H', I', rfl, q⟩
end
end EX
/-! X41q: __eq__; _law_bench_done. -/
namespace X
open PySem PySem.Spec PyProof.Rows L2 DL DM EX
theorem kit_self {K : PySem.W.Frag} {S : Addr} : PySem.W.kitOne K (.ref S) (.ref S) = some true := by
  unfold PySem.W.kitOne
  rw [if_pos (beq_self_eq_true _)]
theorem kit_tupB {K : PySem.W.Frag} {mg : Str → Option Value} (Z : TB K mg) : PySem.W.kitOne K (.type "tuple") (.ref Z.C) = some false := by
  have e2 : ((PySem.W.clsIn K Z.C).isSome && PySem.W.typeIn K (.ref Z.C) == some (.type "type")) = true := by
    rw [Z.t, show (PySem.W.clsIn K Z.C).isSome = true from Z.i]; rfl
  unfold PySem.W.kitOne
  rw [if_neg (fun z => by cases eq_of_beq z)]
  show (if ((PySem.W.clsIn K Z.C).isSome && PySem.W.typeIn K (.ref Z.C) == some (.type "type")) = true then PySem.W.subIn K (.type "tuple") (.ref Z.C) else none) = some false
  rw [if_pos e2]; exact Z.sT
def spEq (K : PySem.W.Frag) (C : Addr) : Sp := fun vs H Q _ => ∃ (b : Addr) (y : V) (B : Hp) (cap : Int) (row : List Int), vs = [.ref b, y] ∧ Same B H ∧ BenAt K C B b cap row ∧
  ((∃ (o : Addr) (cap' : Int) (row' : List Int), y = .ref o ∧ BenAt K C B o cap' row' ∧ ∀ H', Same H H' → Q (.bl (decide (cap = cap') && decide (row = row'))) H') ∨
   (∃ (a : Addr) (xs : List V), y = .ref a ∧ H a = some (.tup xs) ∧ ∀ H', Same H H' → Q (.bl false) H'))
theorem eq_pair {c c' : Int} {r r' : List Int} : eqD (.tuple [.int c, rowD r]) (.tuple [.int c', rowD r']) = some (.bool (decide (c = c') && decide (r = r'))) := by
  have pl : ∀ (c : Int) (r : List Int), Pln 2 (.tuple [.int c, rowD r]) := fun c r => .tuple fun d hd => by
    simp only [List.mem_cons, List.not_mem_nil, or_false] at hd
    rcases hd with rfl | rfl
    · exact pln_int
    · exact pln_rowD
  refine eqD_b (pl c r) (pl c' r') (by decide) ⟨fun z => ?_, fun z => ?_⟩
  · obtain ⟨z1, z2⟩ := Bool.and_eq_true_iff.mp z
    rw [of_decide_eq_true z1, of_decide_eq_true z2]
  · have h := PyData.tuple.inj z
    simp only [List.cons.injEq, and_true] at h
    rw [decide_eq_true (PyData.int.inj h.1), decide_eq_true (iL_inj (PyData.tuple.inj h.2))]; rfl
section
variable {P : Program} {w : World} {K : PySem.W.Frag} {mg : Str → Option Value} {base : Heap}
theorem ok_eq (T : TX K mg) (Z : TB K mg) : FnOk P w K mg base (L2N.CX P w) 1 Z.f_eq Z.d_eq ["self", "other"] (spEq K Z.C) := by
  refine okM (k := 0) Z.F_eq sc_b_eq (fun vs H Q E ⟨_, _, _, _, _, e, _⟩ => by rw [e]; rfl) fun cdv A l0 s H vs Q E hr h => ⟨_, pss_one (ps_ret (pe_and (pe_callB (call_isiK (K := K) rfl) (by rfl) T.b_isinstance (by decide +kernel) (pa_cons (pv 1) (pa_cons (pe_glob (v := .ref Z.C) (by rfl) Z.g rfl) pa_nil)))
    (pe_one (pe_cmpR (op_eqK (K := K) rfl hr.units) (pe_tup (pa_cons (pe_fld (pv 0) rfl) (pa_cons (pe_fld (pv 0) rfl) pa_nil))) (pe_tup (pa_cons (pe_fld (pv 1) rfl) (pa_cons (pe_fld (pv 1) rfl) pa_nil))) (nomark _))))), ?_⟩
  obtain ⟨b, y, B, cap, row, rfl, sB, ⟨dx, vN, l, h1, h2⟩, h⟩ := h
  rcases h with ⟨o, cap', row', rfl, ⟨dx', vN', l', k1, k2⟩, q⟩ | ⟨a, xs, rfl, ha, q⟩
  · refine ⟨.ref o, rfl, .ref o, .ref Z.C, .ref Z.C, .ref Z.C, true, rfl, .own _, .base (.ins (sB _ _ k1) Z.cl Z.ha Z.hn Z.ht Z.hm), kit_self, true, rfl, ?_⟩
    rw [if_pos rfl]
    refine ⟨.ref b, rfl, b, _, dx, _, .int cap, rfl, sB _ _ h1, Z.cl, Z.nC, bfl_cap, .ref b, rfl, b, _, dx, _, vN, rfl, sB _ _ h1, Z.cl, Z.nN, bfl_now, (by show 2 ≤ sizeLine; decide), fun p np => ?_⟩
    obtain ⟨g1, d1⟩ := Grow.newTup (K := K) (vs := [.int cap, vN]) (ds := [.int cap, rowD row]) sB np (.cons (.int cap) (.cons h2 .nil))
    have k1' := g1.bb _ _ k1
    refine ⟨.ref o, rfl, o, _, dx', _, .int cap', rfl, g1.bh _ _ k1', Z.cl, Z.nC, bfl_cap, .ref o, rfl, o, _, dx', _, vN', rfl, g1.bh _ _ k1', Z.cl, Z.nN, bfl_now, (by show 2 ≤ sizeLine; decide), fun p2 np2 => ?_⟩
    obtain ⟨g2, d2⟩ := Grow.newTup (K := K) (vs := [.int cap', vN']) (ds := [.int cap', rowD row']) g1.bh np2 (.cons (.int cap') (.cons (dp_mono g1.bb _ _ k2) .nil))
    refine d_eq _ _ (.ref p) (.ref p2) _ _ _ _ g2.bh (dp_mono g2.bb _ _ d1) d2 eq_pair fun v B3 H3 g3 dv => ?_
    rw [dp_bool dv]
    exact q H3 ((g1.hh.trans g2.hh).trans g3.hh)
  · refine ⟨.ref a, rfl, .ref a, .ref Z.C, .type "tuple", .ref Z.C, false, rfl, .own _, .base (.tup ha), kit_tupB Z, false, rfl, ?_⟩
    rw [if_neg Bool.false_ne_true]
    exact q H (Same.refl H)
/-! ### a deed done -/
/-- x[j] -/
theorem ix_read {σ : L2.St} {B H : Hp} {i : Nat} {u : V} {d z : D} {j : Int} {Q : VK} (hi : σ[i]? = some (some u)) (sB : Same B H) (du : DL.Dp K B u d) (hz : ixD d (.int j) = some z) (q : ∀ v B' H', Grow B H B' H' → DL.Dp K B' v z → Q v H') : tOp (rIx K) (tVar i) (tC (.int j)) σ H Q :=
  ⟨u, hi, d_ix B H u (.int j) d (.int j) z _ sB du (.int j) hz q⟩
/-- word == text -/
theorem word_read {σ : L2.St} {B H : Hp} {i : Nat} {a b : Str} {ta tb : TS} {D0 : Ends} (hi : σ[i]? = some (some (.str a))) (sB : Same B H) (ha : (PyData.str a).canLay0 = true) (hb : (PyData.str b).canLay0 = true)
    (q : if a = b then ∀ B' H', Grow B H B' H' → ta D0 σ H' else ∀ B' H', Grow B H B' H' → tb D0 σ H') : tIfS (tTest (tOp (rEqD K) (tVar i) (tC (.str b)))) ta tb D0 σ H := by
  refine ⟨.str a, hi, ?_⟩
  unfold tC
  refine d_eq B H (.str a) (.str b) (.str a) (.str b) _ _ sB (.str a) (.str b) (eqD_str ha hb) fun v B' H' g dv => ⟨_, dp_bool dv, ?_⟩
  dsimp only
  by_cases h : a = b
  · rw [decide_eq_true h, if_pos rfl]; rw [if_pos h] at q; exact q B' H' g
  · rw [decide_eq_false h, if_neg Bool.false_ne_true]; rw [if_neg h] at q; exact q B' H' g
theorem meth_do {C b dx l : Addr} {cap : Int} {row : List Int} {past : List (List Int)} {B H : Hp} {i n : Nat} {m : Str} {F : Int → List Int → List (List Int) → List D → Oc} {σ : L2.St} {ds : List D} {t : TA} {Q : VK} {E : XK} (hm : (decide (m = "cap") || decide (m = "now") || decide (m = "former")) = false) (hi : σ[i]? = some (some (.ref b)))
    (bm : BM K C B H b dx l cap row past) (ht : ∀ Q' : List V → Hp → Prop, (∀ us B1 H1, Grow B H B1 H1 → us.length = n → DL.DpAll K B1 us ds → Q' us H1) → t σ H Q') (hn : row.length ≤ 1000) (hk : past.length ≤ 1000) (hw : (F cap row past ds).want K C B H b dx l cap Q E) :
    tMeth C m (spM K C n F) [] E (tVar i) t σ H Q := by
  obtain ⟨vN, vs, h1, _⟩ := bm.ob
  exact ⟨.ref b, hi, b, dx, _, rfl, h1, bfl_no hm, ht _ fun us B1 H1 g hl da => by rw [List.append_nil]; exact ⟨b, us, ds, B1, dx, l, cap, row, past, rfl, hl, g.bh, bm.grow g, da, hn, hk, hw.grow g⟩⟩
/-- what is due, as a bench's deed ends -/
def dueO (U : TC K mg) (cap : Int) (row : List Int) (past : List (List Int)) (e : Dd) : Oc := match due cap row e with
  | .there r => .ok r (past ++ [row])
  | .no => .ex U.C_NoPlace
  | .full p => .exP U.C_Full p
  | .empty p => .exP U.C_Empty p
def spDone (K : PySem.W.Frag) (mg : Str → Option Value) (U : TC K mg) (C : Addr) : Sp := fun vs H Q E => ∃ (b : Addr) (y : V) (e : Dd) (B : Hp) (dx l : Addr) (cap : Int) (row : List Int) (past : List (List Int)), vs = [.ref b, y] ∧ Same B H ∧ BM K C B H b dx l cap row past ∧ DL.Dp K B y e.toD ∧
  row.length ≤ 1000 ∧ past.length ≤ 1000 ∧ (dueO U cap row past e).want K C B H b dx l cap Q E
theorem dueO_put {U : TC K mg} {cap : Int} {row : List Int} {past : List (List Int)} {x : D} : putR U.C_NoPlace U.C_Full cap row past [x] = dueO U cap row past (.put x) := by
  show (match good row.length x with | some p => _ | none => _) = (match (match good row.length x with | some p => if gI row p = cap then Out.full p else .there (row.set p (gI row p + 1)) | none => .no) with | .there r => Oc.ok r (past ++ [row]) | .no => .ex U.C_NoPlace | .full p => .exP U.C_Full p | .empty p => .exP U.C_Empty p)
  cases good row.length x with
  | none => rfl
  | some p => dsimp only; split <;> rfl
theorem dueO_take {U : TC K mg} {cap : Int} {row : List Int} {past : List (List Int)} {x : D} : takeR U.C_NoPlace U.C_Empty cap row past [x] = dueO U cap row past (.take x) := by
  show (match good row.length x with | some p => _ | none => _) = (match (match good row.length x with | some p => if gI row p = 0 then Out.empty p else .there (row.set p (gI row p - 1)) | none => .no) with | .there r => Oc.ok r (past ++ [row]) | .no => .ex U.C_NoPlace | .full p => .exP U.C_Full p | .empty p => .exP U.C_Empty p)
  cases good row.length x with
  | none => rfl
  | some p => dsimp only; split <;> rfl
theorem dueO_exch {U : TC K mg} {cap : Int} {row : List Int} {past : List (List Int)} {x y : D} : exchR U.C_NoPlace cap row past [x, y] = dueO U cap row past (.exch x y) := by
  show (match good row.length x with | some p => (match good row.length y with | some q => _ | none => _) | none => _) = (match (match good row.length x, good row.length y with | some p, some q => Out.there ((row.set p (gI row q)).set q (gI row p)) | _, _ => .no) with | .there r => Oc.ok r (past ++ [row]) | .no => .ex U.C_NoPlace | .full p => .exP U.C_Full p | .empty p => .exP U.C_Empty p)
  cases good row.length x with
  | none => rfl
  | some p => cases good row.length y with
    | none => rfl
    | some q => rfl
end
end X
/-! X41r: _law_bench_done. -/
namespace X
open PySem PySem.Spec PyProof.Rows L2 DL DM EX
theorem Dd.word (e : Dd) : ∃ (a : Str) (ds : List D), e.toD = .tuple (.str a :: ds) ∧ (PyData.str a).canLay0 = true := by
  cases e with
  | turn => exact ⟨_, _, rfl, lay_turn⟩
  | exch x y => exact ⟨_, _, rfl, lay_exch⟩
  | put x => exact ⟨_, _, rfl, lay_put⟩
  | take x => exact ⟨_, _, rfl, lay_take⟩
theorem words : ("exchange" : Str) ≠ "turn" ∧ ("put" : Str) ≠ "turn" ∧ ("take" : Str) ≠ "turn" ∧ ("put" : Str) ≠ "exchange" ∧ ("take" : Str) ≠ "exchange" ∧ ("take" : Str) ≠ "put" := by decide +kernel
section
variable {P : Program} {w : World} {K : PySem.W.Frag} {mg : Str → Option Value} {base : Heap}
theorem ok_done (T : TX K mg) (U : TC K mg) (Z : TB K mg) (R : TR K mg U) (ZZ : TZ K mg U) : FnOk P w K mg base (L2N.CX P w) 4 T.f_l_bench_done T.d_l_bench_done ["bench", "deed"] (spDone K mg U Z.C) := by
  refine okM (k := 3) T.F_l_bench_done sc_l_bench_done (fun vs H Q E ⟨_, _, _, _, _, _, _, _, _, e, _⟩ => by rw [e]; rfl) fun cdv A l0 s H vs Q E hr h => ⟨_, pss_cons (ps_set (i := 2) sc_l_bench_done.nd rfl (by first | exact Or.inl rfl | exact Or.inr rfl) (pe_ix (ix_K (K := K) rfl) (pv 1) pe_int (fun _ _ => rfl)))
    (pss_cons (ps_if (pt_cmpR (op_eqK (K := K) rfl hr.units) (pv 2) pe_str (nomark _)) (pss_one (ps_ret (pe_meth0 (pv 0) Z.cl Z.M_turn (ok_turn T Z) (hr.mono (by decide)) (b_b_turn Z) .nil passE))) pss_nil)
    (pss_cons (ps_if (pt_cmpR (op_eqK (K := K) rfl hr.units) (pv 2) pe_str (nomark _)) (pss_one (ps_ret (pe_meth (pv 0) Z.cl Z.M_exchange (ok_exchange T U Z R) (hr.mono (by decide)) (b_b_exchange Z) .nil passE (pa_cons (pe_ix (ix_K (K := K) rfl) (pv 1) pe_int (fun _ _ => rfl)) (pa_cons (pe_ix (ix_K (K := K) rfl) (pv 1) pe_int (fun _ _ => rfl)) pa_nil))))) pss_nil)
    (pss_one (ps_ret (pe_ifExp (pt_cmpR (op_eqK (K := K) rfl hr.units) (pv 2) pe_str (nomark _)) (pe_meth (pv 0) Z.cl Z.M_put (ok_put T U Z R ZZ) (hr.mono (by decide)) (b_b_put Z) .nil passE (pa_cons (pe_ix (ix_K (K := K) rfl) (pv 1) pe_int (fun _ _ => rfl)) pa_nil))
      (pe_meth (pv 0) Z.cl Z.M_take (ok_take T U Z R ZZ) (hr.mono (by decide)) (b_b_take Z) .nil passE (pa_cons (pe_ix (ix_K (K := K) rfl) (pv 1) pe_int (fun _ _ => rfl)) pa_nil))))))), ?_⟩
  obtain ⟨b, y, e, B, dx, l, cap, row, past, rfl, sB, bm, dy, hn, hk, h⟩ := h
  obtain ⟨a, ds, ed, la⟩ := e.word
  have h0 : ixD e.toD (.int 0) = some (.str a) := by rw [ed, ev_ixT]; exact atI_nat (j := 0) rfl
  unfold tSeq tAsg
  refine ix_read (i := 1) (u := y) rfl sB dy h0 fun v B1 H1 g1 dv => ?_
  cases dp_str dv
  have m1 := bm.grow g1
  have dy1 := dp_mono g1.bb _ _ dy
  unfold gName
  dsimp only
  refine word_read (i := 2) (a := a) rfl g1.bh la lay_turn ?_
  by_cases w1 : a = "turn"
  · rw [if_pos w1]
    intro B2 H2 g2
    have g12 := g1.trans g2
    have he : e = .turn := by
      subst w1
      cases e with
      | turn => rfl
      | exch x y => exact absurd (PyData.str.inj (List.cons.inj (PyData.tuple.inj ed)).1) words.1
      | put x => exact absurd (PyData.str.inj (List.cons.inj (PyData.tuple.inj ed)).1) words.2.1
      | take x => exact absurd (PyData.str.inj (List.cons.inj (PyData.tuple.inj ed)).1) words.2.2.1
    subst he
    unfold tRet
    refine meth_do (F := turnR) (ds := []) (i := 0) (by decide +kernel) rfl (m1.grow g2) (fun Q' q => q [] B2 H2 (Grow.refl g2.bh) rfl .nil) hn hk ?_
    exact Oc.want.grow (r := .ok row.reverse (past ++ [row])) g12 h
  · rw [if_neg w1]
    intro B2 H2 g2
    have g12 := g1.trans g2
    have m2 := m1.grow g2
    have dy2 := dp_mono g2.bb _ _ dy1
    unfold tNext
    dsimp only
    refine word_read (i := 2) (a := a) rfl g2.bh la lay_exch ?_
    by_cases w2 : a = "exchange"
    · rw [if_pos w2]
      intro B3 H3 g3
      have g13 := g12.trans g3
      cases e with
      | turn => exact absurd (PyData.str.inj (List.cons.inj (PyData.tuple.inj ed)).1).symm w1
      | put x => subst w2; exact absurd (PyData.str.inj (List.cons.inj (PyData.tuple.inj ed)).1) words.2.2.2.1
      | take x => subst w2; exact absurd (PyData.str.inj (List.cons.inj (PyData.tuple.inj ed)).1) words.2.2.2.2.1
      | exch x z =>
        unfold tRet
        refine meth_do (F := exchR U.C_NoPlace) (ds := [x, z]) (i := 0) (by decide +kernel) rfl (m2.grow g3) (fun Q' q => ?_) hn hk ?_
        · refine ix_read (i := 1) (u := y) (d := .tuple [.str "exchange", x, z]) rfl g3.bh (dp_mono g3.bb _ _ dy2) (by rw [ev_ixT]; exact atI_nat (j := 1) rfl) fun v1 B4 H4 g4 d4 => ?_
          refine ix_read (i := 1) (u := y) (d := .tuple [.str "exchange", x, z]) rfl g4.bh (dp_mono g4.bb _ _ (dp_mono g3.bb _ _ dy2)) (by rw [ev_ixT]; exact atI_nat (j := 2) rfl) fun v2 B5 H5 g5 d5 => ?_
          exact q [v1, v2] B5 H5 (g4.trans g5) rfl (.cons (dp_mono g5.bb _ _ d4) (.cons d5 .nil))
        · rw [dueO_exch]; exact h.grow g13
    · rw [if_neg w2]
      intro B3 H3 g3
      have g13 := g12.trans g3
      have m3 := m2.grow g3
      have dy3 := dp_mono g3.bb _ _ dy2
      dsimp only
      unfold tRet tIf
      refine ⟨.str a, rfl, ?_⟩
      unfold tC
      refine d_eq B3 H3 (.str a) (.str "put") (.str a) (.str "put") _ _ g3.bh (.str a) (.str "put") (eqD_str la lay_put) fun v B4 H4 g4 dv4 => ⟨_, dp_bool dv4, ?_⟩
      have g14 := g13.trans g4
      have m4 := m3.grow g4
      have dy4 := dp_mono g4.bb _ _ dy3
      cases e with
      | turn => exact absurd (PyData.str.inj (List.cons.inj (PyData.tuple.inj ed)).1).symm w1
      | exch x z => exact absurd (PyData.str.inj (List.cons.inj (PyData.tuple.inj ed)).1).symm w2
      | put x =>
        have ea : a = "put" := (PyData.str.inj (List.cons.inj (PyData.tuple.inj ed)).1).symm
        rw [decide_eq_true ea]
        dsimp only
        rw [if_pos rfl]
        refine meth_do (F := putR U.C_NoPlace U.C_Full) (ds := [x]) (i := 0) (by decide +kernel) rfl m4 (fun Q' q => ?_) hn hk (by rw [dueO_put]; exact h.grow g14)
        exact ix_read (i := 1) (u := y) (d := .tuple [.str "put", x]) rfl g4.bh dy4 (by rw [ev_ixT]; exact atI_nat (j := 1) rfl) fun v1 B5 H5 g5 d5 => q [v1] B5 H5 g5 rfl (.cons d5 .nil)
      | take x =>
        have ea : a ≠ "put" := fun z => words.2.2.2.2.2 ((PyData.str.inj (List.cons.inj (PyData.tuple.inj ed)).1).trans z)
        rw [decide_eq_false ea]
        dsimp only
        rw [if_neg Bool.false_ne_true]
        refine meth_do (F := takeR U.C_NoPlace U.C_Empty) (ds := [x]) (i := 0) (by decide +kernel) rfl m4 (fun Q' q => ?_) hn hk (by rw [dueO_take]; exact h.grow g14)
        exact ix_read (i := 1) (u := y) (d := .tuple [.str "take", x]) rfl g4.bh dy4 (by rw [ev_ixT]; exact atI_nat (j := 1) rfl) fun v1 B5 H5 g5 d5 => q [v1] B5 H5 g5 rfl (.cons d5 .nil)
end
end X
/-! X41s: told of a lambda; _law_refused_so. -/
namespace X
open PySem PySem.Spec PyProof.Rows L2 DL DM EX LamX
abbrev XC (P : Program) (w : World) (K : PySem.W.Frag) (mg : Str → Option Value) (base : Heap) (N : List Str) (x : Str) (st : Stmt) (f c : Addr) (A : Around) (l : List Env) (s : Shared) (H : Hp) (E : XK) : Cx := (cxOf CX0 P w K mg base N x (defScope st) f (.ref c) A l s H E).nox
abbrev qOf (x : Str) : Str := (x ++ ".<locals>.") ++ "<lambda>"
section
variable {P : Program} {w : World} {K : PySem.W.Frag} {mg : Str → Option Value} {base : Heap}
theorem pe_lam41 {N : List Str} {x : Str} {st : Stmt} {fL c Pt : Addr} {A : Around} {l : List Env} {s : Shared} {H : Hp} {E : XK} {Ts : List (Addr × Str)} {params : Arguments} {body : Expr} {scope : Scope} {p lpos pos : Pos} {t : XK → L2.TE} (T : TX K mg) (U : TC K mg) (Z : TZ K mg U) (TBt : TabB base mg c Pt)
    (hg : Gl (XC P w K mg base N x st fL c A l s H E) "_law_told") (hmT : (Pt, qOf x) ∈ Ts) (hu : ∀ q ∈ Ts, q.1 = Pt → q.2 = qOf x) (hr : Room 6 (XC P w K mg base N x st fL c A l s H E).A)
    (L : LamS (defScope st) scope) (hdef : defaultsOf params (XC P w K mg base N x st fL c A l s H E).env = ([], [])) (hbind : ∀ (q : Str) (cl : List (Str × Addr)) (pm cv ctv : Value), bindArgs (PySem.W.kla_fn "<lambda>" q params body scope cl pm cv ctv) ⟨[], []⟩ = pure [])
    (hbody : ∀ (A1 : Around) (l1 : List Env) (s1 : Shared) (H1 : Hp) (E1 : XK) (f c' : Addr), Room 4 (A1.deeper (lamEnv (XC P w K mg base N x st fL c A l s H E) scope s1.heap.objs.size f c')) → PE (lamCxN (XC P w K mg base N x st fL c A l s H E) A1 l1 s1 H1 E1 scope f c') body (t E1)) :
    PE (XC P w K mg base N x st fL c A l s H E) (.Call (.Name "_law_told" p) [.Lambda params body scope lpos] [] pos) (tLam Ts (TTg K mg U) t) := by
  obtain ⟨oc, od, kV, doc, pm, an, cdv, ct, osl, e, lk, hcd⟩ := T.F_l_told.ex
  have hb := b_l_told T
  rw [e] at hb lk
  exact pe_lamM (k := 4) (X := XC P w K mg base N x st fL c A l s H E) (Ng := N_l_told) (a := "deed") hg T.g_l_told T.F_l_told.kp lk hcd hb sc_l_told rfl (Or.inl rfl) (told_givesM (X := XC P w K mg base N x st fL c A l s H E) (by decide) T U Z) TBt rfl hmT hu hr L hdef hbind hbody
/-- within a lambda: what is let out is let out -/
theorem passL {N : List Str} {x : Str} {st : Stmt} {fL c : Addr} {A A1 : Around} {l l1 : List Env} {s s1 : Shared} {H H1 : Hp} {E E1 : XK} {scope : Scope} {f c' : Addr} : Passes (L2N.CX P w) (lamCxN (XC P w K mg base N x st fL c A l s H E) A1 l1 s1 H1 E1 scope f c') E1 :=
  L2N.passes_call (X := lamCxN (XC P w K mg base N x st fL c A l s H E) A1 l1 s1 H1 E1 scope f c') takes_lam fun _ _ _ _ h => h
/-- that what S is raised for is told by the text k -/
def SaysA (K : PySem.W.Frag) (mg : Str → Option Value) (U : TC K mg) (S : Addr) (k : Str) : Prop := ∀ H Q, (∀ v B' H', Grow emp H B' H' → DL.Dp K B' v (.tuple [.str k]) → Q v H') → Rf K mg U (.ref S) none H Q
theorem says_NoCap {U : TC K mg} : SaysA K mg U U.C_NoCap "FormError NoCap +" := fun H Q h => .inl ⟨rfl, rfl, emp, same_emp _, h⟩
theorem says_NoRow {U : TC K mg} : SaysA K mg U U.C_NoRow "FormError NoRow +" := fun H Q h => .inr (.inl ⟨rfl, rfl, emp, same_emp _, h⟩)
theorem says_NoFrame {U : TC K mg} : SaysA K mg U U.C_NoFrame "FormError NoFrame +" := fun H Q h => .inr (.inr (.inr (.inl ⟨rfl, rfl, emp, same_emp _, h⟩)))
theorem pln_t1 {a : Str} (h : (PyData.str a).canLay0 = true) : Pln 1 (.tuple [.str a]) := .tuple fun d hd => by
  simp only [List.mem_cons, List.not_mem_nil, or_false] at hd
  rw [hd]; exact pln_str h
theorem ne_t1 {a : Str} (h : (PyData.str a).canLay0 = true) : neD (.tuple [.str a]) (.tuple [.str a]) = some (.bool false) := neD_b (b := true) (pln_t1 h) (pln_t1 h) (by decide) ⟨fun _ => rfl, fun _ => rfl⟩
theorem eq_t1 {a : Str} (h : (PyData.str a).canLay0 = true) : eqD (.tuple [.str a]) (.tuple [.str a]) = some (.bool true) := eqD_b (b := true) (pln_t1 h) (pln_t1 h) (by decide) ⟨fun _ => rfl, fun _ => rfl⟩
section
variable {Ts : List (Addr × Str)} {U : TC K mg} {S : Addr} {k : Str} {t : XK → L2.TE} {σ : L2.St} {H : Hp}
/-- if told(lambda ..) != (k,): .. -/
theorem lam_ne {u : TS} {D0 : Ends} (hT : Tabs Ts H) (hs : SaysA K mg U S k) (lk : (PyData.str k).canLay0 = true) (hl : ∀ H1, ExtN H H1 → Tabs Ts H1 → ∀ (Ech : XK) (Nd : VK), (∀ H2, Same H1 H2 → Ech (.ref S) none H2) → t Ech σ H1 Nd)
    (h : ∀ H', ExtN H H' → Tabs Ts H' → D0.nx σ H') : tIfS (tTest (tOp (rNeD K) (tLam Ts (TTg K mg U) t) (tTup (tCons (tC (.str k)) tNil)))) u tNext D0 σ H := by
  refine ⟨hT, fun H1 e1 T1 Ech Nd hE _ => hl H1 e1 T1 Ech Nd fun H2 s2 => hE _ _ _ (hs _ _ fun v B3 H3 g3 dv => ⟨by show 1 ≤ sizeLine; decide, fun p np => ?_⟩)⟩
  obtain ⟨g4, d4⟩ := Grow.newTup (K := K) (vs := [.str k]) (ds := [.str k]) g3.bh np (.cons (.str k) .nil)
  refine d_ne _ _ _ _ _ _ (.bool false) _ g4.bh (dp_mono g4.bb _ _ dv) d4 (ne_t1 lk) fun y B5 H5 g5 dy => ⟨false, dp_bool dy, ?_⟩
  have hs : Same H1 H5 := ((s2.trans g3.hh).trans g4.hh).trans g5.hh
  exact h H5 (e1.trans (ExtN.of hs)) (T1.ext hs)
/-- told(lambda ..) == (k,) -/
theorem lam_eq {Q : VK} (hT : Tabs Ts H) (hs : SaysA K mg U S k) (lk : (PyData.str k).canLay0 = true) (hl : ∀ H1, ExtN H H1 → Tabs Ts H1 → ∀ (Ech : XK) (Nd : VK), (∀ H2, Same H1 H2 → Ech (.ref S) none H2) → t Ech σ H1 Nd)
    (h : ∀ H', ExtN H H' → Tabs Ts H' → Q (.bl true) H') : tOp (rEqD K) (tLam Ts (TTg K mg U) t) (tTup (tCons (tC (.str k)) tNil)) σ H Q := by
  refine ⟨hT, fun H1 e1 T1 Ech Nd hE _ => hl H1 e1 T1 Ech Nd fun H2 s2 => hE _ _ _ (hs _ _ fun v B3 H3 g3 dv => ⟨by show 1 ≤ sizeLine; decide, fun p np => ?_⟩)⟩
  obtain ⟨g4, d4⟩ := Grow.newTup (K := K) (vs := [.str k]) (ds := [.str k]) g3.bh np (.cons (.str k) .nil)
  refine d_eq _ _ _ _ _ _ (.bool true) _ g4.bh (dp_mono g4.bb _ _ dv) d4 (eq_t1 lk) fun y B5 H5 g5 dy => ?_
  have hs : Same H1 H5 := ((s2.trans g3.hh).trans g4.hh).trans g5.hh
  rw [dp_bool dy]
  exact h H5 (e1.trans (ExtN.of hs)) (T1.ext hs)
end
theorem lay_cap : (PyData.str "FormError NoCap +").canLay0 = true := by decide +kernel
theorem lay_row : (PyData.str "FormError NoRow +").canLay0 = true := by decide +kernel
theorem lay_frame : (PyData.str "FormError NoFrame +").canLay0 = true := by decide +kernel
/-- a bench that is not made -/
theorem make_no {C SC SR S : Addr} {σ : L2.St} {H B : Hp} {u : V} {dc dr : D} {t : TA} {Q : VK} {Ech : XK} (sB : Same B H) (du : DL.Dp K B u dc) (ht : ∀ Q' : List V → Hp → Prop, (∀ v' B' H', Grow B H B' H' → DL.Dp K B' v' dr → Q' [u, v'] H') → t σ H Q')
    (hc : (btw 1 9 dc = false ∧ S = SC) ∨ (∃ cap : Int, dc = .int cap ∧ btw 1 9 dc = true ∧ (∀ xs, dr = .tuple xs → xs.length ≤ 1000000) ∧ rowB cap dr = false ∧ S = SR)) (hE : ∀ H2, Same H H2 → Ech (.ref S) none H2) : tMake C (spI K C SC SR) [] Ech t σ H Q := by
  refine ht _ fun v' B1 H1 g1 dv' x dx nx nd ne => ?_
  have s1 : Same H1 (upd (upd H1 dx (.own x)) x (.ins C dx [])) := (same_new nd).trans (same_new (by rw [upd_ne (Ne.symm ne)]; exact nx))
  have sB1 : Same B1 (upd (upd H1 dx (.own x)) x (.ins C dx [])) := g1.bh.trans s1
  have nb : B1 x = none := g1.bh.free nx
  show spI K C SC SR [.ref x, u, v'] _ _ Ech
  refine ⟨x, dx, u, v', dc, dr, B1, rfl, sB1, nb, upd_same, dp_mono g1.bb _ _ du, dv', ?_⟩
  rcases hc with ⟨h1, rfl⟩ | ⟨cap, e, h1, h2, h3, rfl⟩
  · exact .inl ⟨h1, fun B' H' g => hE H' ((g1.hh.trans s1).trans g.hh)⟩
  · exact .inr (.inl ⟨cap, e, h1, h2, h3, fun B' H' g => hE H' ((g1.hh.trans s1).trans g.hh)⟩)
end
end X
/-! X41t: _law_refused_so. -/
namespace X
open PySem PySem.Spec PyProof.Rows L2 DL DM EX LamX
/-- a def of the law's own, its code object at c -/
structure CdOf (K : PySem.W.Frag) (x : Str) (st : Stmt) (f : Addr) (fd : FuncData) (c : Addr) : Prop where
  ex : ∃ (oc : Value) (od : Option Addr) (kV doc pm : Value) (an : Option Addr) (ct : Value) (osl : Array (Option Value)), fd = PySem.W.fnOf x x (defArgs st) (defBody st) (defScope st) .none kV doc pm an (.ref c) ct ∧ K.lookup f = some ⟨oc, od, .func fd, osl⟩ ∧ PySem.W.codeIn K (.ref c) x = true
section
variable {P : Program} {w : World} {K : PySem.W.Frag} {mg : Str → Option Value} {base : Heap}
theorem fn_at {x : Str} {st : Stmt} {f c : Addr} {fd : FuncData} {N ps : List Str} {k : Nat} {sp : Sp} (C : CdOf K x st f fd c) (S : FnScope N ps (defScope st)) (len : ∀ vs H Q E, sp vs H Q E → vs.length = ps.length)
    (hb : ∀ (A : Around) (l : List Env) (s : Shared) (H : Hp) (vs : List V) (Q : VK) (E : XK), Room k (XC P w K mg base N x st f c A l s H E).A → sp vs H Q E →
      ∃ t, PSs (XC P w K mg base N x st f c A l s H E) (defBody st) t ∧ t { nx := fun _ H' => Q .non H', rt := Q } (L2.start N vs) H) : FnOk P w K mg base CX0 (k + 1) f fd ps sp := by
  obtain ⟨oc, od, kV, doc, pm, an, ct, osl, rfl, lk, hcd⟩ := C.ex
  refine fn_of lk hcd S len fun A l s H vs Q E hr h => ?_
  obtain ⟨t, ht, q⟩ := hb A l s H vs Q E hr h
  exact ⟨t, ht.nox, q⟩
/-- the tables of the law's own defs -/
structure Tb (base : Heap) (mg : Str → Option Value) (Ts : List (Addr × Str)) (x : Str) (c Pt : Addr) : Prop where
  tb : TabB base mg c Pt
  mem : (Pt, qOf x) ∈ Ts
  u : ∀ q ∈ Ts, q.1 = Pt → q.2 = qOf x
def spRS (K : PySem.W.Frag) (Ts : List (Addr × Str)) : Sp := fun vs H Q _ => ∃ (u v : V) (B : Hp) (cap : Int) (row : List Int), vs = [u, v] ∧ Same B H ∧ DL.Dp K B u (.int cap) ∧ DL.Dp K B v (rowD row) ∧ 1 ≤ cap ∧ cap ≤ 9 ∧ row.length ≤ 1000 ∧ Tabs Ts H ∧ ∀ H', ExtN H H' → Tabs Ts H' → Q (.bl true) H'
theorem grow_fw {c' : Dr} {B H B' H' : Hp} (x : Fw none c' B H B' H') : Grow B H B' H' := ⟨x.bb, x.bh, fun a o h => x.keep a o (fun z => nomatch z) h, x.fresh⟩
theorem btw_cap {cap : Int} (h1 : 1 ≤ cap) (h2 : cap ≤ 9) : btw 1 9 (.int cap) = true := by
  show (decide (1 ≤ cap) && decide (cap ≤ 9)) = true
  rw [decide_eq_true h1, decide_eq_true h2]; rfl
theorem ok_refused (T : TX K mg) (U : TC K mg) (Z : TB K mg) (R : TR K mg U) (ZZ : TZ K mg U) {Ts : List (Addr × Str)} {c Pt : Addr} (C : CdOf K "_law_refused_so" s_l_refused_so T.f_l_refused_so T.d_l_refused_so c) (TT : Tb base mg Ts "_law_refused_so" c Pt) :
    FnOk P w K mg base CX0 7 T.f_l_refused_so T.d_l_refused_so ["cap_d", "row_d"] (spRS K Ts) := by
  refine fn_at (k := 6) C sc_l_refused_so (fun vs H Q E ⟨_, _, _, _, _, e, _⟩ => by rw [e]; rfl) fun A l s H vs Q E hr h => ⟨_, pss_cons (ps_if (pt_cmpR (op_neK (K := K) rfl hr.units) (pe_lam41 T U ZZ TT.tb (by rfl) TT.mem TT.u hr (lamS_by (by decide +kernel)) rfl (fun _ _ _ _ _ => rfl) (fun A l s H E f c' hr => pe_make Z.mkB (ok_init T U Z R) hr (by rfl) Z.g (b_b_init Z) .nil passL (pa_cons pe_int (pa_cons (pv 1) pa_nil)))) (pe_tup (pa_cons pe_str pa_nil)) (nomark _)) (pss_one (ps_ret pe_bl)) pss_nil)
    (pss_cons (ps_if (pt_cmpR (op_neK (K := K) rfl hr.units) (pe_lam41 T U ZZ TT.tb (by rfl) TT.mem TT.u hr (lamS_by (by decide +kernel)) rfl (fun _ _ _ _ _ => rfl) (fun A l s H E f c' hr => pe_make Z.mkB (ok_init T U Z R) hr (by rfl) Z.g (b_b_init Z) .nil passL (pa_cons pe_bl (pa_cons pe_non pa_nil)))) (pe_tup (pa_cons pe_str pa_nil)) (nomark _)) (pss_one (ps_ret pe_bl)) pss_nil)
    (pss_one (ps_ret (pe_cmpR (op_eqK (K := K) rfl hr.units) (pe_lam41 T U ZZ TT.tb (by rfl) TT.mem TT.u hr (lamS_by (by decide +kernel)) rfl (fun _ _ _ _ _ => rfl) (fun A l s H E f c' hr => pe_make Z.mkB (ok_init T U Z R) hr (by rfl) Z.g (b_b_init Z) .nil passL (pa_cons (pv 0) (pa_cons (pe_op (op_addK (K := K) rfl) (pv 1) (pe_tup (pa_cons (pe_op (op_addK (K := K) rfl) (pv 0) pe_int) pa_nil))) pa_nil)))) (pe_tup (pa_cons pe_str pa_nil)) (nomark _))))), ?_⟩
  obtain ⟨u, v, B, cap, row, rfl, sB, du, dv, c1, c2, hn, hT, q⟩ := h
  have R0 := rl_start (K := K) (N := N_l_refused_so) (n := 0) sB (.cons du (.cons dv .nil)) rfl
  unfold tSeq
  refine lam_ne hT says_NoCap lay_cap (fun H1 e1 T1 Ech Nd hE => ?_) fun H1 e1 T1 => ?_
  · exact make_no (u := .int 0) (dc := .int 0) (same_nt sB e1) (.int 0) (fun Q' z => ⟨v, rfl, z v _ H1 (Grow.refl (same_nt sB e1)) (dp_nt _ _ dv)⟩) (.inl ⟨rfl, rfl⟩) hE
  dsimp only
  refine lam_ne T1 says_NoCap lay_cap (fun H2 e2 T2 Ech Nd hE => ?_) fun H2 e2 T2 => ?_
  · exact make_no (B := emp) (u := .bl true) (dc := .bool true) (dr := .none) (same_emp _) (.bl true) (fun Q' z => z .non _ H2 (Grow.refl (same_emp _)) .non) (.inl ⟨rfl, rfl⟩) hE
  dsimp only
  unfold tRet
  refine lam_eq T2 says_NoRow lay_row (fun H3 e3 T3 Ech Nd hE => ?_) fun H3 e3 T3 => q H3 ((e1.trans e2).trans e3) T3
  have e03 := (e1.trans e2).trans e3
  have R3 := EX.Rl.ext R0 e03
  have f1 : few 1 = true := by decide
  have f2 : few ((iL row).length + 1) = true := by unfold few; rw [iL_len]; exact decide_eq_true (by omega)
  have ev : sOp addD (sV 1) (sTup (sCons (sOp addD (sV 0) (sC (.int 1))) sNil)) [.im (.int cap), .im (rowD row)] (0, 0) = some (.tuple (iL (row ++ [cap + 1])), (0, 0)) := by
    simp only [ev_sOp, ev_sV, ev_sTup, ev_sCons, ev_sNil, ev_sC, List.getElem?_cons_succ, List.getElem?_cons_zero, Option.bind_some, ev_addII, List.length_cons, List.length_nil, Nat.zero_add, f1, if_true, ev_addTT, f2]
    rw [iL_app]; rfl
  have im := imp_op (K := K) d_add (imp_v 1) (imp_tup (imp_cons (imp_op d_add (imp_v 0) (imp_int (i := 1))) imp_nil))
  refine make_no (u := u) (dc := .int cap) (dr := rowD (row ++ [cap + 1])) R3.sub (dp_nt _ _ du) (fun Q' z => ⟨u, rfl, im none (nt B) _ H3 _ (0, 0) _ (0, 0) _ R3 ev fun v' B' H' x dv' => z v' B' H' (grow_fw x) dv'⟩) (.inr ⟨cap, rfl, btw_cap c1 c2, fun xs e => ?_, ?_, rfl⟩) hE
  · cases e
    rw [iL_len, List.length_append]
    show row.length + 1 ≤ 1000000
    omega
  · show (decide (1 ≤ ((iL (row ++ [cap + 1])).length : Int)) && decide (((iL (row ++ [cap + 1])).length : Int) ≤ 24) && (iL (row ++ [cap + 1])).all (btw 0 cap)) = false
    have : (iL (row ++ [cap + 1])).all (btw 0 cap) = false := by
      rw [iL_app, List.all_append]
      show (_ && ((decide (0 ≤ cap + 1) && decide (cap + 1 ≤ cap)) && true)) = false
      rw [decide_eq_false (show ¬ cap + 1 ≤ cap by omega)]
      simp
    rw [this, Bool.and_false]
end
end X
/-! X41u: what benches that stand tell, on data; _law_stands_so's first part. -/
namespace X
open PySem PySem.Spec PyProof.Rows L2 DL DM EX LamX
noncomputable def sOpq (i : Nat) (v : V) (F : List D → Option D) (a : SA) : SE := open Classical in fun ρ c => if ρ[i]? = some (.op v) then (a ρ c).bind fun p => (F p.1).bind fun z => some (z, p.2) else none
theorem sOpq_eq {i : Nat} {v : V} {F : List D → Option D} {a : SA} {ρ : Rho} {c : Dr} (h : ρ[i]? = some (.op v)) : sOpq i v F a ρ c = (a ρ c).bind fun p => (F p.1).bind fun z => some (z, p.2) := if_pos h
noncomputable def sTl (i : Nat) (v : V) (j : Nat) (u : V) (k : Nat) (G : D → Option D) : SE := open Classical in fun ρ c => if ρ[i]? = some (.op v) ∧ ρ[j]? = some (.op u) then (match ρ[k]? with | some (.im d) => (G d).bind fun z => some (z, c) | _ => none) else none
theorem sTl_eq {i j k : Nat} {v u : V} {G : D → Option D} {ρ : Rho} {c : Dr} {d z : D} (h : ρ[i]? = some (.op v)) (h2 : ρ[j]? = some (.op u)) (h3 : ρ[k]? = some (.im d)) (hz : G d = some z) : sTl i v j u k G ρ c = some (z, c) := by
  unfold sTl
  rw [if_pos ⟨h, h2⟩, h3]
  show (G d).bind _ = _
  rw [hz]; rfl
section
variable {K : PySem.W.Frag} {J : Hp} {C b o : Addr} {i j k n : Nat} {cap cap' : Int} {row row' : List Int}
theorem imp_methJ {m : Str} {F : Int → List Int → List D → Rs} {G : List D → Option D} {t : TA} {a : SA} {E : XK} (hm : (decide (m = "cap") || decide (m = "now") || decide (m = "former")) = false) (hb : BenAt K C J b cap row) (hn : row.length ≤ 1000) (ha : ImpA K t a) (hG : ∀ ds z, G ds = some z → ds.length = n ∧ F cap row ds = .ok z) :
    ImpEJ K J (tMeth C m (spB K C n F) [] E (tVar i) t) (sOpq i (.ref b) G a) := fun ad B σ H ρ c d c' Q jj R e q => by
  unfold sOpq at e
  split at e
  · rename_i e0
    obtain ⟨⟨ds, c1⟩, e1, e2⟩ := Option.bind_eq_some_iff.mp e
    obtain ⟨z, e3, e4⟩ := Option.bind_eq_some_iff.mp e2
    cases e4
    obtain ⟨g1, g2⟩ := hG ds _ e3
    have hb' := hb.mono jj
    obtain ⟨dx, vN, l, h1, h2⟩ := hb'
    refine ⟨.ref b, R.slot i _ e0, b, dx, _, rfl, R.sub _ _ h1, bfl_no hm, ha ad B σ H ρ c ds c1 _ R e1 fun us B1 H1 x da => ?_⟩
    rw [List.append_nil]
    refine ⟨b, us, ds, B1, cap, row, rfl, by rw [dpAll_len da, g1], x.bh, (hb.mono jj).mono x.bb, da, hn, ?_⟩
    rw [g2]
    exact fun v B2 H2 g dv => q v B2 H2 (R.trans x (g.fw x.cell)) dv
  · cases e
theorem imp_lenOJ {E : XK} (hb : BenAt K C J b cap row) (hn : row.length ≤ 1000) : ImpEJ K J (tCB (rLenO C (spB K C 0 fun _ row _ => .ok (.int row.length)) E) (tCons (tVar i) tNil)) (sGive i (.ref b) (.int row.length)) := fun ad B σ H ρ c d c' Q jj R e q => by
  obtain ⟨e0, rfl, rfl⟩ := sGive_slot e
  exact len_read (R.slot i _ e0) R.sub (hb.mono jj) hn fun B' H' g => q _ B' H' (g.fw R.cell) (.int _)
theorem imp_tlJ {S : Addr} {G : D → Option D} {E : XK} (hb : BenAt K C J b cap row) (ho : BenAt K C J o cap' row') (hn : row.length ≤ 1000) (hn' : row'.length ≤ 1000) (hG : ∀ d z, G d = some z → tlR S row row' d = .ok z) :
    ImpEJ K J (tMeth C "tells_like" (spTL K C S) [] E (tVar i) (tCons (tVar j) (tCons (tVar k) tNil))) (sTl i (.ref b) j (.ref o) k G) := fun ad B σ H ρ c d c' Q jj R e q => by
  unfold sTl at e
  split at e
  · rename_i e0
    split at e
    · rename_i d0 e1
      obtain ⟨z, e3, e4⟩ := Option.bind_eq_some_iff.mp e
      cases e4
      have hb' := hb.mono jj
      obtain ⟨dx, vN, l, h1, h2⟩ := hb'
      obtain ⟨v, ev, dv⟩ := R.slot k _ e1
      refine ⟨.ref b, R.slot i _ e0.1, b, dx, _, rfl, R.sub _ _ h1, bfl_no (by decide +kernel), .ref o, R.slot j _ e0.2, v, ev, b, o, v, B, cap, cap', row, row', d0, rfl, R.sub, hb.mono jj, ho.mono jj, dv, hn, hn', ?_⟩
      rw [hG _ _ e3]
      exact fun w B2 H2 g dw => q w B2 H2 (g.fw R.cell) dw
    · cases e
  · cases e
end
/-! ### the first part -/
abbrev stS (b o : Addr) (row : List Int) (fr al : Sl) : Rho := [.dr, .op (.ref b), .im (rowD row), .op (.ref o), fr, al]
def gRow (row : List Int) : List D → Option D := fun ds => match ds with
  | [] => some (rowD row)
  | _ => none
def gCnt (row : List Int) : List D → Option D := fun ds => match ds with
  | [d] => (frm row.length d).map fun f => .tuple (iL (csL f row))
  | _ => none
def gTl (row row' : List Int) : D → Option D := fun d => (frm row.length d).map fun f => .bool (alikeB row row' f)
noncomputable def S_so1 (b : Addr) (row : List Int) : SS := sIfS (sOr (sB (sOp neD (sOpq 1 (.ref b) (gRow row) sNil) (sV 2))) (sB (sOp neD (sGive 1 (.ref b) (.int row.length)) (sCB lenD (sCons (sV 2) sNil))))) (sRet (sC (.bool false))) sNext
noncomputable def S_soB (b o : Addr) (row row' : List Int) : SS := sSeq (sIfS (sB (sOp neD (sOpq 1 (.ref b) (gCnt row) (sCons (sV 4) sNil)) (sCall F_l_counts (sCons (sV 2) (sCons (sV 4) sNil))))) (sRet (sC (.bool false))) sNext)
  (sSeq (sAsg (sOp eqD (sCB lenD (sCons (sOpq 3 (.ref o) (gRow row') sNil) sNil)) (sCB lenD (sCons (sV 2) sNil))) (qN 5))
  (sSeq (sIfS (sB (sV 5)) (sAsg (sOp eqD (sCall F_l_counts (sCons (sOpq 3 (.ref o) (gRow row') sNil) (sCons (sV 4) sNil))) (sCall F_l_counts (sCons (sV 2) (sCons (sV 4) sNil)))) (qN 5)) sNext)
  (sIfS (sNot (sB (sCall F_l_truly (sCons (sTl 1 (.ref b) 3 (.ref o) 4 (gTl row row')) (sCons (sV 5) sNil))))) (sRet (sC (.bool false))) sNext)))
noncomputable def S_so2 (b o : Addr) (row row' : List Int) : SS := sFor (sItL (sLst (sCons (sC (.int 1)) (sCons (sCB lenD (sCons (sV 2) sNil)) (sCons (sOp addD (sC (.int 1)) (sCallD F_l_draw 0 (sCons (sCB lenD (sCons (sV 2) sNil)) sNil))) sNil))))) (qN 4) (sThen [4, 5] (S_soB b o row row'))
def S_so3 : SS := sAsg (sCallD F_l_of 0 (sCons (sLst (sCons (sC (.int 0)) (sCons (sOp addD (sCB lenD (sCons (sV 2) sNil)) (sC (.int 1))) (sCons (sC .none) (sCons (sC (.bool true)) (sCons (sC (.str "1")) sNil)))))) sNil)) (qN 4)
section
variable {b o : Addr} {row row' : List Int} {c : Dr}
theorem so1_ev {al fr : Sl} (hn : row.length ≤ 1000) : S_so1 b row (stS b o row fr al) c = some (.nx, stS b o row fr al, c) := by
  have e1 : sOpq 1 (.ref b) (gRow row) sNil (stS b o row fr al) c = some (rowD row, c) := by rw [sOpq_eq rfl]; rfl
  have e2 : sGive 1 (.ref b) (.int row.length) (stS b o row fr al) c = some (.int row.length, c) := sGive_eq rfl
  unfold S_so1
  simp only [ev_sIfS, ev_sOr, ev_sB, ev_sOp, e1, e2, ev_sV, ev_sCB, ev_sCons, ev_sNil, List.getElem?_cons_succ, List.getElem?_cons_zero, Option.bind_some, neT, decide_true, Bool.not_true, Bool.false_eq_true, if_false, ev_lenT, iL_len, neD_int]
  rfl
theorem soB_ev {f : Nat} {al : Sl} (h1 : 1 ≤ f) (h2 : f ≤ row.length) (hn : row.length ≤ 1000) (hn' : row'.length ≤ 1000) : ∃ al', S_soB b o row row' (stS b o row (.im (.int f)) al) c = some (.nx, stS b o row (.im (.int f)) al', c) := by
  have hf : frm row.length (.int (f : Int)) = some f := by
    show (if 1 ≤ (f : Int) ∧ (f : Int) ≤ row.length then some (f : Int).toNat else none) = some f
    rw [if_pos ⟨by omega, by omega⟩]
    congr 1
  have a1 : ∀ al, sOpq 1 (.ref b) (gCnt row) (sCons (sV 4) sNil) (stS b o row (.im (.int f)) al) c = some (.tuple (iL (csL f row)), c) := fun al => by
    rw [sOpq_eq rfl]
    simp only [ev_sCons, ev_sNil, ev_sV, List.getElem?_cons_succ, List.getElem?_cons_zero, Option.bind_some]
    show (((frm row.length (.int (f : Int))).map _).bind _) = _
    rw [hf]; rfl
  have a2 : ∀ al, sOpq 3 (.ref o) (gRow row') sNil (stS b o row (.im (.int f)) al) c = some (rowD row', c) := fun al => by rw [sOpq_eq rfl]; rfl
  have a3 : ∀ al, sTl 1 (.ref b) 3 (.ref o) 4 (gTl row row') (stS b o row (.im (.int f)) al) c = some (.bool (alikeB row row' f), c) := fun al => sTl_eq rfl rfl rfl (by unfold gTl; rw [hf]; rfl)
  have k1 : F_l_counts [rowD row, .int (f : Int)] = some (.tuple (iL (csL f row))) := F_l_counts_eq h1 h2 hn
  have st1 : sIfS (sB (sOp neD (sOpq 1 (.ref b) (gCnt row) (sCons (sV 4) sNil)) (sCall F_l_counts (sCons (sV 2) (sCons (sV 4) sNil))))) (sRet (sC (.bool false))) sNext (stS b o row (.im (.int f)) al) c = some (.nx, stS b o row (.im (.int f)) al, c) := by
    simp only [ev_sIfS, ev_sB, ev_sOp, a1, ev_sCall, ev_sCons, ev_sNil, ev_sV, List.getElem?_cons_succ, List.getElem?_cons_zero, Option.bind_some, k1, neT, decide_true, Bool.not_true, Bool.false_eq_true, if_false]
    rfl
  have st2 : sAsg (sOp eqD (sCB lenD (sCons (sOpq 3 (.ref o) (gRow row') sNil) sNil)) (sCB lenD (sCons (sV 2) sNil))) (qN 5) (stS b o row (.im (.int f)) al) c = some (.nx, stS b o row (.im (.int f)) (.im (.bool (decide ((row'.length : Int) = row.length)))), c) := by
    simp only [ev_sAsg, ev_sOp, ev_sCB, ev_sCons, ev_sNil, a2, ev_sV, List.getElem?_cons_succ, List.getElem?_cons_zero, Option.bind_some, ev_lenT, iL_len, eqD_int]
    rfl
  have st3 : sIfS (sB (sV 5)) (sAsg (sOp eqD (sCall F_l_counts (sCons (sOpq 3 (.ref o) (gRow row') sNil) (sCons (sV 4) sNil))) (sCall F_l_counts (sCons (sV 2) (sCons (sV 4) sNil)))) (qN 5)) sNext (stS b o row (.im (.int f)) (.im (.bool (decide ((row'.length : Int) = row.length))))) c = some (.nx, stS b o row (.im (.int f)) (.im (.bool (alikeB row row' f))), c) := by
    by_cases hl : row.length = row'.length
    · have k2 : F_l_counts [rowD row', .int (f : Int)] = some (.tuple (iL (csL f row'))) := F_l_counts_eq h1 (by omega) hn'
      rw [decide_eq_true (show (row'.length : Int) = row.length by omega)]
      simp only [ev_sIfS, ev_sB, ev_sAsg, ev_sOp, ev_sCall, ev_sCons, ev_sNil, a2, ev_sV, List.getElem?_cons_succ, List.getElem?_cons_zero, Option.bind_some, if_true, k1, k2, eqT]
      unfold alikeB
      rw [decide_eq_true hl, Bool.true_and, show decide (csL f row' = csL f row) = decide (csL f row = csL f row') by simp only [eq_comm]]
      rfl
    · rw [decide_eq_false (show ¬ (row'.length : Int) = row.length by omega)]
      simp only [ev_sIfS, ev_sB, ev_sV, List.getElem?_cons_succ, List.getElem?_cons_zero, Option.bind_some, Bool.false_eq_true, if_false]
      unfold alikeB
      rw [decide_eq_false hl, Bool.false_and]
      rfl
  have st4 : sIfS (sNot (sB (sCall F_l_truly (sCons (sTl 1 (.ref b) 3 (.ref o) 4 (gTl row row')) (sCons (sV 5) sNil))))) (sRet (sC (.bool false))) sNext (stS b o row (.im (.int f)) (.im (.bool (alikeB row row' f)))) c = some (.nx, stS b o row (.im (.int f)) (.im (.bool (alikeB row row' f))), c) := by
    simp only [ev_sIfS, ev_sNot, ev_sB, ev_sCall, ev_sCons, ev_sNil, a3, ev_sV, List.getElem?_cons_succ, List.getElem?_cons_zero, Option.bind_some, F_l_truly_eq, beq_self_eq_true, Bool.not_true, Bool.false_eq_true, if_false]
    rfl
  refine ⟨.im (.bool (alikeB row row' f)), ?_⟩
  unfold S_soB
  rw [ev_sSeq, st1]
  show sSeq _ _ _ _ = _
  rw [ev_sSeq, st2]
  show sSeq _ _ _ _ = _
  rw [ev_sSeq, st3]
  exact st4
theorem so2_ev (h1 : 1 ≤ row.length) (h24 : row.length ≤ 1000) (hn' : row'.length ≤ 1000) (hc : OkDr c) : ∃ c', S_so2 b o row row' (stS b o row .un .un) c = some (.nx, stS b o row .un .un, c') ∧ OkDr c' := by
  obtain ⟨_, c1, e1, r, rfl, r0, r1, ok⟩ := F_l_draw_eq (m := (row.length : Int)) (c := c) (by omega) (by omega) hc
  have f3 : few 3 = true := by decide
  refine ⟨c1, ?_, ok⟩
  have el : sItL (sLst (sCons (sC (.int 1)) (sCons (sCB lenD (sCons (sV 2) sNil)) (sCons (sOp addD (sC (.int 1)) (sCallD F_l_draw 0 (sCons (sCB lenD (sCons (sV 2) sNil)) sNil))) sNil)))) (stS b o row .un .un) c = some ([.int 1, .int row.length, .int (1 + r)], c1) := by
    simp only [ev_sItL, ev_sLst, ev_sCons, ev_sNil, ev_sC, ev_sCB, ev_sV, ev_sOp, ev_sCallD, List.getElem?_cons_succ, List.getElem?_cons_zero, Option.bind_some, ev_lenT, iL_len, e1, ev_addII, List.length_cons, List.length_nil, Nat.zero_add, f3, if_true]
  unfold S_so2
  show ((sItL _ (stS b o row .un .un) c).bind fun p => forS (qN 4) (sThen [4, 5] (S_soB b o row row')) p.1 (stS b o row .un .un) p.2) = _
  rw [el]
  have turn : ∀ f : Nat, 1 ≤ f → f ≤ row.length → ∃ ρ1, qN 4 (.int (f : Int)) (stS b o row .un .un) = some ρ1 ∧ sThen [4, 5] (S_soB b o row row') ρ1 c1 = some (.nx, stS b o row .un .un, c1) := fun f g1 g2 => by
    obtain ⟨al', e⟩ := soB_ev (b := b) (o := o) (row' := row') (c := c1) (al := .un) g1 g2 h24 hn'
    refine ⟨stS b o row (.im (.int f)) .un, rfl, ?_⟩
    show ((S_soB b o row row' (stS b o row (.im (.int f)) .un) c1).bind _) = _
    rw [e]
    rfl
  have lp := forS_rt (tg := qN 4) (body := sThen [4, 5] (S_soB b o row row')) (d := .none) (fun _ => false) (xs := [.int 1, .int row.length, .int (1 + r)]) (fun _ => stS b o row .un .un) c1 (fun i x hx _ => by
    match i, hx with
    | 0, hx => cases hx; exact turn 1 (by omega) h1
    | 1, hx => cases hx; exact turn row.length h1 (Nat.le_refl _)
    | 2, hx =>
      cases hx
      obtain ⟨z, hz⟩ : ∃ z : Nat, 1 + r = (z : Int) := ⟨(1 + r).toNat, by omega⟩
      rw [hz]
      exact turn z (by omega) (by omega)
    | i + 3, hx => cases hx) (fun i x hx hb => by cases hb)
  exact lp
theorem so3_ev (h1 : 1 ≤ row.length) (h24 : row.length ≤ 1000) (hc : OkDr c) : ∃ d c', S_so3 (stS b o row .un .un) c = some (.nx, stS b o row (.im d) .un, c') ∧ OkDr c' ∧ frm row.length d = none := by
  have f5 : few 5 = true := by decide
  obtain ⟨d, c', e, hd, ok⟩ := F_l_of_eq (ds := [.int 0, .int (row.length + 1), .none, .bool true, .str "1"]) (c := c) (by simp) (by simp) hc
  refine ⟨d, c', ?_, ok, ?_⟩
  · unfold S_so3
    simp only [ev_sAsg, ev_sCallD, ev_sCons, ev_sNil, ev_sLst, ev_sC, ev_sOp, ev_sCB, ev_sV, List.getElem?_cons_succ, List.getElem?_cons_zero, Option.bind_some, ev_lenT, iL_len, ev_addII, List.length_cons, List.length_nil, Nat.zero_add, f5, if_true, e]
    rfl
  · simp only [List.mem_cons, List.not_mem_nil, or_false] at hd
    rcases hd with rfl | rfl | rfl | rfl | rfl
    · rfl
    · show (if 1 ≤ ((row.length : Int) + 1) ∧ ((row.length : Int) + 1) ≤ row.length then _ else _) = none
      rw [if_neg (by omega)]
    · rfl
    · rfl
    · rfl
end
end X
/-! X41v: _law_stands_so. -/
namespace X
open PySem PySem.Spec PyProof.Rows L2 DL DM EX LamX
section
variable {K : PySem.W.Frag}
theorem TabS.but {H H' : Hp} {P a : Addr} {q : Str} {vs : List V} (t : TabS H P q) (ha : H a = some (.lst vs)) (e : ∀ x u, x ≠ a → H x = some u → H' x = some u) : TabS H' P q := by
  obtain ⟨ps, h1, h2, h3⟩ := t
  refine ⟨ps, e _ _ (fun z => by rw [z, ha] at h1; cases h1) h1, h2, fun pos cv hc => ?_⟩
  obtain ⟨c, e1, e2⟩ := h3 pos cv hc
  refine ⟨c, e1, e _ _ (fun z => ?_) e2⟩
  rw [z, ha] at e2
  unfold CodeO at e2
  cases e2
theorem BenAt.nt {C : Addr} {B : Hp} {b : Addr} {cap : Int} {row : List Int} (h : BenAt K C B b cap row) : BenAt K C (EX.nt B) b cap row :=
  let ⟨dx, vN, l, h1, h2⟩ := h
  ⟨dx, vN, l, nt_of h1 (fun ps z => by cases z), dp_nt _ _ h2⟩
/-- what stands but the cell and the tables -/
def ButC (a : Addr) (H H' : Hp) : Prop := ∀ x u, x ≠ a → H x = some u → (∀ ps, u ≠ .tbl ps) → H' x = some u
def spSS (K : PySem.W.Frag) (C : Addr) (Ts : List (Addr × Str)) : Sp := fun vs H Q _ => ∃ (a b o : Addr) (rv : V) (B : Hp) (c : Dr) (cap cap' : Int) (row row' : List Int), vs = [.ref a, .ref b, rv, .ref o] ∧ Same B H ∧ B a = none ∧ H a = some (.lst [.int c.1, .int c.2]) ∧ OkDr c ∧ BenAt K C B b cap row ∧ BenAt K C B o cap' row' ∧
  DL.Dp K B rv (rowD row) ∧ 1 ≤ row.length ∧ row.length ≤ 1000 ∧ row'.length ≤ 1000 ∧ Tabs Ts H ∧ ∀ H' c', ButC a H H' → H' a = some (.lst [.int c'.1, .int c'.2]) → OkDr c' → Tabs Ts H' → Q (.bl true) H'
theorem rl_stands {B H : Hp} {a b o : Addr} {rv : V} {c : Dr} {row : List Int} (s : Same B H) (nB : B a = none) (hc : H a = some (.lst [.int c.1, .int c.2])) (d : DL.Dp K B rv (rowD row)) : DL.Rl K (some a) B (L2.start N_l_stands_so [.ref a, .ref b, rv, .ref o]) H (stS b o row .un .un) c := by
  refine ⟨s, fun x e => by cases e; exact hc, fun x e => by cases e; exact nB, rfl, fun i t e => ?_, fun i j t u x hij e1 e2 o1 o2 => ?_⟩
  · match i, e with
    | 0, e => cases e; exact ⟨a, rfl, rfl⟩
    | 1, e => cases e; rfl
    | 2, e => cases e; exact ⟨rv, rfl, d⟩
    | 3, e => cases e; rfl
    | 4, e => cases e; trivial
    | 5, e => cases e; trivial
    | i + 6, e => cases e
  · match i, e1 with
    | 0, e1 => cases e1; cases o1
    | 1, e1 => cases e1; cases o1
    | 2, e1 => cases e1; cases o1
    | 3, e1 => cases e1; cases o1
    | 4, e1 => cases e1; cases o1
    | 5, e1 => cases e1; cases o1
    | i + 6, e1 => cases e1
theorem no_stands {b o : Addr} {row : List Int} {fr al : Sl} {σ : L2.St} (h1 : owns fr = false) (h2 : owns al = false) : ∀ x, ¬ Owned (stS b o row fr al) σ x := noOwned fun i s e => by
  match i, e with
  | 0, e => cases e; rfl
  | 1, e => cases e; rfl
  | 2, e => cases e; rfl
  | 3, e => cases e; rfl
  | 4, e => cases e; exact h1
  | 5, e => cases e; exact h2
  | i + 6, e => cases e
end
section
variable {P : Program} {w : World} {K : PySem.W.Frag} {mg : Str → Option Value} {base : Heap}
theorem gRow_ok {S : Int → List Int → List D → Rs} {cap : Int} {row : List Int} (hS : S cap row [] = .ok (rowD row)) : ∀ ds z, gRow row ds = some z → ds.length = 0 ∧ S cap row ds = .ok z := fun ds z h => by
  match ds, h with
  | [], h => cases h; exact ⟨rfl, hS⟩
theorem gCnt_ok {S : Addr} {cap : Int} {row : List Int} : ∀ ds z, gCnt row ds = some z → ds.length = 1 ∧ cntR S cap row ds = .ok z := fun ds z h => by
  match ds, h with
  | [d], h =>
    obtain ⟨f, e, rfl⟩ := Option.map_eq_some_iff.mp (show (frm row.length d).map _ = some z from h)
    refine ⟨rfl, ?_⟩
    show (match frm row.length d with | some f => Rs.ok (.tuple (iL (csL f row))) | none => .ex S) = _
    rw [e]
theorem gTl_ok {S : Addr} {row row' : List Int} : ∀ d z, gTl row row' d = some z → tlR S row row' d = .ok z := fun d z h => by
  obtain ⟨f, e, rfl⟩ := Option.map_eq_some_iff.mp (show (frm row.length d).map _ = some z from h)
  unfold tlR
  rw [e]
theorem imp_rowJ {J : Hp} {C b : Addr} {i : Nat} {cap : Int} {row : List Int} (hb : BenAt K C J b cap row) (hn : row.length ≤ 1000) : ImpEJ K J (tMeth C "row" (spB K C 0 fun _ row _ => .ok (.tuple (iL row))) [] C8.E0 (tVar i) tNil) (sOpq i (.ref b) (gRow row) sNil) :=
  imp_methJ (m := "row") (F := fun _ row _ => .ok (.tuple (iL row))) (by decide +kernel) hb hn imp_nil (gRow_ok (S := fun _ row _ => .ok (.tuple (iL row))) (cap := cap) rfl)
theorem imp_cntJ (S : Addr) {J : Hp} {C b : Addr} {i : Nat} {cap : Int} {row : List Int} {t : TA} {a : SA} (hb : BenAt K C J b cap row) (hn : row.length ≤ 1000) (ha : ImpA K t a) : ImpEJ K J (tMeth C "counts" (spB K C 1 (cntR S)) [] C8.E0 (tVar i) t) (sOpq i (.ref b) (gCnt row) a) :=
  imp_methJ (m := "counts") (F := cntR S) (by decide +kernel) hb hn ha gCnt_ok
theorem ok_stands (T : TX K mg) (U : TC K mg) (Z : TB K mg) (R : TR K mg U) (ZZ : TZ K mg U) {Ts : List (Addr × Str)} {cc Pt : Addr} (C : CdOf K "_law_stands_so" s_l_stands_so T.f_l_stands_so T.d_l_stands_so cc) (TT : Tb base mg Ts "_law_stands_so" cc Pt) :
    FnOk P w K mg base CX0 7 T.f_l_stands_so T.d_l_stands_so ["draws", "bench", "row_d", "other"] (spSS K Z.C Ts) := by
  refine fn_at (k := 6) C sc_l_stands_so (fun vs H Q E ⟨_, _, _, _, _, _, _, _, _, _, e, _⟩ => by rw [e]; rfl) fun A l s H vs Q E hr h => ⟨_, pss_cons (ps_if (PW.pt (pw_or (pt_cmpR (op_neK (K := K) rfl hr.units) (pe_meth0 (pv 1) Z.cl Z.M_row (ok_row Z) (hr.mono (by decide)) (b_b_row Z) .nil passN) (pv 2) (nomark _)) (pw_or1 (pt_cmpR (op_neK (K := K) rfl hr.units) (pe_callB (call_lenO (ok_len T Z) Z.M_len (b_b_len Z) (hr.mono (by decide)) passN) (by rfl) T.b_len (by decide +kernel) (pa_cons (pv 1) pa_nil)) (pe_callB (call_lenK (K := K) rfl) (by rfl) T.b_len (by decide +kernel) (pa_cons (pv 2) pa_nil)) (nomark _))))) (pss_one (ps_ret pe_bl)) pss_nil)
    (pss_cons (ps_for PassesOwn.never rfl (pi_listK (K := K) rfl (pe_lst (pa_cons pe_int (pa_cons (pe_callB (call_lenK (K := K) rfl) (by rfl) T.b_len (by decide +kernel) (pa_cons (pv 2) pa_nil)) (pa_cons (pe_op (op_addK (K := K) rfl) pe_int (pe_call (ok_l_draw T) (hr.mono (by decide)) (by rfl) T.g_l_draw T.F_l_draw.kp (b_l_draw T) .nil pass0 (pa_cons (pv 0) (pa_cons (pe_callB (call_lenK (K := K) rfl) (by rfl) T.b_len (by decide +kernel) (pa_cons (pv 2) pa_nil)) pa_nil)))) pa_nil))))) (pg_name (i := 4) sc_l_stands_so.nd rfl (by first | exact Or.inl rfl | exact Or.inr rfl))
      (pss_cons (ps_if (pt_cmpR (op_neK (K := K) rfl hr.units) (pe_meth (pv 1) Z.cl Z.M_counts (ok_counts T U Z R) (hr.mono (by decide)) (b_b_counts Z) .nil passN (pa_cons (pv 4) pa_nil)) (pe_call (ok_l_counts T) (hr.mono (by decide)) (by rfl) T.g_l_counts T.F_l_counts.kp (b_l_counts T) .nil pass0 (pa_cons (pv 2) (pa_cons (pv 4) pa_nil))) (nomark _)) (pss_one (ps_ret pe_bl)) pss_nil)
      (pss_cons (ps_set (i := 5) sc_l_stands_so.nd rfl (by first | exact Or.inl rfl | exact Or.inr rfl) (pe_cmpR (op_eqK (K := K) rfl hr.units) (pe_callB (call_lenK (K := K) rfl) (by rfl) T.b_len (by decide +kernel) (pa_cons (pe_meth0 (pv 3) Z.cl Z.M_row (ok_row Z) (hr.mono (by decide)) (b_b_row Z) .nil passN) pa_nil)) (pe_callB (call_lenK (K := K) rfl) (by rfl) T.b_len (by decide +kernel) (pa_cons (pv 2) pa_nil)) (nomark _)))
      (pss_cons (ps_if (pt_val (pv 5)) (pss_one (ps_set (i := 5) sc_l_stands_so.nd rfl (by first | exact Or.inl rfl | exact Or.inr rfl) (pe_cmpR (op_eqK (K := K) rfl hr.units) (pe_call (ok_l_counts T) (hr.mono (by decide)) (by rfl) T.g_l_counts T.F_l_counts.kp (b_l_counts T) .nil pass0 (pa_cons (pe_meth0 (pv 3) Z.cl Z.M_row (ok_row Z) (hr.mono (by decide)) (b_b_row Z) .nil passN) (pa_cons (pv 4) pa_nil))) (pe_call (ok_l_counts T) (hr.mono (by decide)) (by rfl) T.g_l_counts T.F_l_counts.kp (b_l_counts T) .nil pass0 (pa_cons (pv 2) (pa_cons (pv 4) pa_nil))) (nomark _)))) pss_nil)
      (pss_one (ps_if (pt_not (pt_val (pe_call (ok_l_truly T) (hr.mono (by decide)) (by rfl) T.g_l_truly T.F_l_truly.kp (b_l_truly T) .nil pass0 (pa_cons (pe_meth (pv 1) Z.cl Z.M_tells_like (ok_tells_like T U Z R) (hr.mono (by decide)) (b_b_tells_like Z) .nil passN (pa_cons (pv 3) (pa_cons (pv 4) pa_nil))) (pa_cons (pv 5) pa_nil))))) (pss_one (ps_ret pe_bl)) pss_nil))))))
    (pss_cons (ps_set (i := 4) sc_l_stands_so.nd rfl (by first | exact Or.inl rfl | exact Or.inr rfl) (pe_call (ok_l_of T) (hr.mono (by decide)) (by rfl) T.g_l_of T.F_l_of.kp (b_l_of T) .nil pass0 (pa_cons (pv 0) (pa_cons (pe_lst (pa_cons pe_int (pa_cons (pe_op (op_addK (K := K) rfl) (pe_callB (call_lenK (K := K) rfl) (by rfl) T.b_len (by decide +kernel) (pa_cons (pv 2) pa_nil)) pe_int) (pa_cons pe_non (pa_cons pe_bl (pa_cons pe_str pa_nil)))))) pa_nil))))
    (pss_cons (ps_if (pt_cmpR (op_neK (K := K) rfl hr.units) (pe_lam41 T U ZZ TT.tb (by rfl) TT.mem TT.u hr (lamS_by (by decide +kernel)) rfl (fun _ _ _ _ _ => rfl) (fun A l s H E f c' hr => pe_meth (pv 1) Z.cl Z.M_counts (ok_counts T U Z R) (hr.mono (by decide)) (b_b_counts Z) .nil passL (pa_cons (pv 4) pa_nil))) (pe_tup (pa_cons pe_str pa_nil)) (nomark _)) (pss_one (ps_ret pe_bl)) pss_nil)
    (pss_one (ps_ret (pe_cmpR (op_eqK (K := K) rfl hr.units) (pe_lam41 T U ZZ TT.tb (by rfl) TT.mem TT.u hr (lamS_by (by decide +kernel)) rfl (fun _ _ _ _ _ => rfl) (fun A l s H E f c' hr => pe_meth (pv 1) Z.cl Z.M_tells_like (ok_tells_like T U Z R) hr (b_b_tells_like Z) .nil passL (pa_cons (pv 3) (pa_cons (pv 4) pa_nil)))) (pe_tup (pa_cons pe_str pa_nil)) (nomark _))))))), ?_⟩
  obtain ⟨a, b, o, rv, B, c, cap, cap', row, row', rfl, sB, nB, hc, okc, hb, ho, dr, n1, n2, n3, hT, q⟩ := h
  have R0 := rl_stands (b := b) (o := o) sB nB hc dr
  obtain ⟨c2, ev2, ok2⟩ := so2_ev (b := b) (o := o) n1 n2 n3 okc
  obtain ⟨d, c3, ev3, ok3, hd⟩ := so3_ev (b := b) (o := o) (c := c2) n1 n2 ok2
  have im1 : ImpSJ K B _ (S_so1 b row) := imp_ifJ (imp_orJ (imp_testJ (imp_opJ d_ne (imp_rowJ hb n2) (jE (imp_v 2)))) (imp_testJ (imp_opJ d_ne (imp_lenOJ (E := C8.E0) hb n2) (jE (imp_cb d_len (imp_cons (imp_v 2) imp_nil)))))) (jS (imp_ret imp_bl)) (jS imp_next)
  have im2 : ImpSJ K B _ (S_so2 b o row row') := imp_forJ (jI (imp_iL (imp_lst (imp_cons imp_int (imp_cons (imp_cb d_len (imp_cons (imp_v 2) imp_nil)) (imp_cons (imp_op d_add imp_int (imp_callD (F := F_l_draw) (i := 0) (imp_cons (imp_cb d_len (imp_cons (imp_v 2) imp_nil)) imp_nil))) imp_nil)))))) (imp_gN 4)
    (imp_thenJ [4, 5] (imp_seqJ (imp_ifJ (imp_testJ (imp_opJ d_ne (imp_cntJ U.C_NoFrame hb n2 (imp_cons (imp_v 4) imp_nil)) (jE (imp_call (F := F_l_counts) (imp_cons (imp_v 2) (imp_cons (imp_v 4) imp_nil)))))) (jS (imp_ret imp_bl)) (jS imp_next))
      (imp_seqJ (imp_asgJ (imp_opJ d_eq (imp_cbJ d_len (imp_consJ (imp_rowJ ho n3) imp_nilJ)) (jE (imp_cb d_len (imp_cons (imp_v 2) imp_nil)))) (imp_gN 5))
      (imp_seqJ (imp_ifJ (jT (imp_test (imp_v 5))) (imp_asgJ (imp_opJ d_eq (imp_callJ (F := F_l_counts) (imp_consJ (imp_rowJ ho n3) (jA (imp_cons (imp_v 4) imp_nil)))) (jE (imp_call (F := F_l_counts) (imp_cons (imp_v 2) (imp_cons (imp_v 4) imp_nil))))) (imp_gN 5)) (jS imp_next))
        (imp_ifJ (imp_notJ (imp_tBJ (imp_callJ (F := F_l_truly) (imp_consJ (imp_tlJ (S := U.C_NoFrame) (E := C8.E0) hb ho n2 n3 gTl_ok) (jA (imp_cons (imp_v 5) imp_nil)))))) (jS (imp_ret imp_bl)) (jS imp_next))))))
  have im3 : ImpS K _ S_so3 := imp_asg (imp_callD (F := F_l_of) (i := 0) (imp_cons (imp_lst (imp_cons imp_int (imp_cons (imp_op d_add (imp_cb d_len (imp_cons (imp_v 2) imp_nil)) imp_int) (imp_cons imp_non (imp_cons imp_bl (imp_cons imp_str imp_nil)))))) imp_nil)) (imp_gN 4)
  refine im1 (some a) B _ H _ c _ _ (Same.refl B) R0 (so1_ev n2) fun B1 σ1 H1 R1 y1 => ?_
  refine im2 (some a) B1 σ1 H1 _ c _ _ y1.bb R1 ev2 fun B2 σ2 H2 R2 y2 => ?_
  refine im3 (some a) B2 σ2 H2 _ c2 _ _ R2 ev3 fun B3 σ3 H3 R3 y3 => ?_
  have no0 := no_stands (b := b) (o := o) (row := row) (fr := .un) (al := .un) (σ := L2.start N_l_stands_so [.ref a, .ref b, rv, .ref o]) rfl rfl
  have yy := FwS.trans R0 R1 y1 (FwS.trans R1 R2 y2 y3)
  have k3 : ∀ x u, x ≠ a → H x = some u → H3 x = some u := fun x u n e => yy.keep x u (fun z => n (Option.some.inj z).symm) e (no0 x)
  have T3 : Tabs Ts H3 := fun p hp => TabS.but (hT p hp) hc k3
  have hb3 : BenAt K Z.C (EX.nt B3) b cap row := BenAt.nt (hb.mono yy.bb)
  have ho3 : BenAt K Z.C (EX.nt B3) o cap' row' := BenAt.nt (ho.mono yy.bb)
  have s1 : σ3[1]? = some (some (.ref b)) := R3.slot 1 (.op (.ref b)) rfl
  have s3 : σ3[3]? = some (some (.ref o)) := R3.slot 3 (.op (.ref o)) rfl
  obtain ⟨v4, s4, d4⟩ := R3.slot 4 (.im d) rfl
  dsimp only
  refine lam_ne T3 says_NoFrame lay_frame (fun H4 e4 T4 Ech Nd hE => ?_) fun H4 e4 T4 => ?_
  · refine meth_read (us := [v4]) (ds := [d]) (by decide +kernel) s1 (same_nt R3.sub e4) hb3 (fun Q' z => ⟨v4, s4, z⟩) rfl (.cons (dp_nt _ _ d4) .nil) n2 ?_
    show Rs.want K (EX.nt B3) H4 Nd Ech (match frm row.length d with | some f => .ok (.tuple (iL (csL f row))) | none => .ex U.C_NoFrame)
    rw [hd]
    exact fun B' H' g => hE H' g.hh
  · dsimp only
    unfold tRet
    refine lam_eq T4 says_NoFrame lay_frame (fun H5 e5 T5 Ech Nd hE => ?_) fun H5 e5 T5 => ?_
    · obtain ⟨dx, vN, l', h1, h2⟩ := id hb3
      have sm := same_nt R3.sub (e4.trans e5)
      refine ⟨.ref b, s1, b, dx, _, rfl, sm _ _ h1, bfl_no (by decide +kernel), .ref o, s3, v4, s4, b, o, v4, EX.nt B3, cap, cap', row, row', d, rfl, sm, hb3, ho3, dp_nt _ _ d4, n2, n3, ?_⟩
      unfold tlR
      rw [hd]
      exact fun B' H' g => hE H' g.hh
    · refine q H5 c3 (fun x u n e nt => (e4.trans e5) x u (k3 x u n e) nt) ((e4.trans e5) a _ (R3.cell a rfl) (fun ps z => by cases z)) ok3 T5
end
end X
/-! X41w: the law's text, read. -/
namespace X
open PySem PySem.Spec PyProof.Rows L2 DL DM EX LamX
theorem kbn_init {K : PySem.W.Frag} {mg : Str → Option Value} (Z : TB K mg) : L2.KBn K Z.d_init ["self", "cap", "row"] 1 ["row", "cap"] (fun us ws => us ++ [ws.getD 1 .none, ws.getD 0 .none]) (fun vs zs => vs ++ [zs.getD 1 .non, zs.getD 0 .non]) := by
  obtain ⟨oc, od, kV, doc, pm, an, cdv, ct, osl, e, lk, hcd⟩ := Z.F_init.ex
  rw [e]
  refine ⟨fun s us ws X h1 h2 => .of_eq ?_, fun {vs us zs ws} r1 r2 => ?_⟩
  · match us, ws, h1, h2 with
    | [_], [_, _], _, _ => rfl
  · refine r1.append ?_
    cases r2 with
    | nil => exact .cons rfl (.cons rfl .nil)
    | cons a r =>
      cases r with
      | nil => exact .cons rfl (.cons a .nil)
      | cons b r => exact .cons b (.cons a .nil)
/-- one of a list that stands -/
def spOfR (K : PySem.W.Frag) : Sp := fun vs H Q _ => ∃ (a q : Addr) (os : List V) (B : Hp) (c : Dr), vs = [.ref a, .ref q] ∧ Same B H ∧ B a = none ∧ H a = some (.lst [.int c.1, .int c.2]) ∧ OkDr c ∧ B q = some (.lst os) ∧ 1 ≤ os.length ∧ os.length ≤ 1000 ∧
  ∀ v B' H' c', v ∈ os → OkDr c' → Fw (some a) c' B H B' H' → Q v H'
section
variable {P : Program} {w : World} {K : PySem.W.Frag} {mg : Str → Option Value} {base : Heap}
theorem ok_l_ofR (T : TX K mg) : FnOk P w K mg base CX0 2 T.f_l_of T.d_l_of ["draws", "some"] (spOfR K) := by
  refine T.F_l_of.ok sc_l_of (fun vs H Q E ⟨_, _, _, _, _, e, _⟩ => by rw [e]; rfl) fun cdv A outer s H vs Q E hr h => ⟨_, (pss_one (ps_ret (pe_ix (ix_K (K := K) rfl) (pv 1) (pe_call (ok_l_draw T) (hr.mono (by decide)) (by rfl) T.g_l_draw T.F_l_draw.kp (b_l_draw T) .nil pass0 (pa_cons (pv 0) (pa_cons (pe_callB (call_lenK (K := K) rfl) (by rfl) T.b_len (by decide +kernel) (pa_cons (pv 1) pa_nil)) pa_nil))) (fun _ _ => rfl)))), ?_⟩
  obtain ⟨a, q, os, B, c, rfl, sB, nB, hc, okc, hq, l1, l2, h⟩ := h
  obtain ⟨d, c', e, r, rfl, r0, r1, ok⟩ := F_l_draw_eq (m := (os.length : Int)) (c := c) (by omega) (by omega) okc
  refine ⟨.ref q, rfl, .ref a, rfl, .ref q, rfl, q, os, rfl, .inl (SqL.of (sB _ _ hq)), ?_⟩
  refine ⟨a, [.int os.length], [.int os.length], B, c, _, c', rfl, sB, nB, hc, .cons (.int _) .nil, e, fun v B' H' f dv => ?_⟩
  cases dp_int dv
  obtain ⟨k, rfl⟩ : ∃ k : Nat, r = k := ⟨r.toNat, by omega⟩
  have hk : k < os.length := by omega
  exact .inl ⟨q, os, (k : Int), os[k], rfl, rfl, SqL.of (f.bh _ _ (f.bb _ _ hq)), atI_nat (List.getElem?_eq_getElem hk), h _ B' H' c' (List.getElem_mem hk) ok f⟩
end
end X
/-! X41y: what stands in the law's turns. -/
namespace X
open PySem PySem.Spec PyProof.Rows L2 DL DM EX LamX
/-- the law's objects -/
structure Ob where
  p : Addr
  ot : Addr
  b : Addr
  dx : Addr
  l : Addr
  sc : V
  vr : V
  cap : Int
  row0 : List Int
/-- the slots -/
structure Sv (o : Ob) (wy : Addr) (σ : L2.St) : Prop where
  len : σ.length = 13
  s0 : σ[0]? = some (some o.sc)
  s2 : σ[2]? = some (some (.ref o.p))
  s3 : σ[3]? = some (some (.int o.cap))
  s4 : σ[4]? = some (some o.vr)
  s5 : σ[5]? = some (some (.ref o.b))
  s6 : σ[6]? = some (some (.ref wy))
  s7 : σ[7]? = some (some (.ref o.ot))
theorem Sv.set {o : Ob} {wy : Addr} {σ : L2.St} (h : Sv o wy σ) {i : Nat} (hi : 8 ≤ i) (x : Option V) : Sv o wy (σ.set i x) :=
  ⟨by rw [List.length_set]; exact h.len, by rw [List.getElem?_set_ne (by omega)]; exact h.s0, by rw [List.getElem?_set_ne (by omega)]; exact h.s2, by rw [List.getElem?_set_ne (by omega)]; exact h.s3, by rw [List.getElem?_set_ne (by omega)]; exact h.s4,
   by rw [List.getElem?_set_ne (by omega)]; exact h.s5, by rw [List.getElem?_set_ne (by omega)]; exact h.s6, by rw [List.getElem?_set_ne (by omega)]; exact h.s7⟩
theorem Sv.at {o : Ob} {wy : Addr} {σ : L2.St} (h : Sv o wy σ) {i : Nat} (hi : i < 13) (x : Option V) : (σ.set i x)[i]? = some x := List.getElem?_set_self (by rw [h.len]; exact hi)
theorem Sv.way {o : Ob} {wy wy' : Addr} {σ : L2.St} (h : Sv o wy σ) : Sv o wy' (σ.set 6 (some (.ref wy'))) :=
  ⟨by rw [List.length_set]; exact h.len, by rw [List.getElem?_set_ne (by omega)]; exact h.s0, by rw [List.getElem?_set_ne (by omega)]; exact h.s2, by rw [List.getElem?_set_ne (by omega)]; exact h.s3, by rw [List.getElem?_set_ne (by omega)]; exact h.s4,
   by rw [List.getElem?_set_ne (by omega)]; exact h.s5, List.getElem?_set_self (by rw [h.len]; omega), by rw [List.getElem?_set_ne (by omega)]; exact h.s7⟩
/-- the other benches -/
def Oth (K : PySem.W.Frag) (C : Addr) (B : Hp) (ot : Addr) : Prop := ∃ os : List V, B ot = some (.lst os) ∧ os.length = 3 ∧ ∀ v ∈ os, ∃ (x : Addr) (cap : Int) (row : List Int), v = .ref x ∧ BenAt K C B x cap row ∧ row.length ≤ 1000
theorem Oth.mono {K : PySem.W.Frag} {C : Addr} {B B' : Hp} {ot : Addr} (h : Oth K C B ot) (s : Same B B') : Oth K C B' ot :=
  let ⟨os, h1, h2, h3⟩ := h
  ⟨os, s _ _ h1, h2, fun v hv => let ⟨x, cap, row, e, hb, hn⟩ := h3 v hv; ⟨x, cap, row, e, hb.mono s, hn⟩⟩
theorem Oth.nt {K : PySem.W.Frag} {C : Addr} {B : Hp} {ot : Addr} (h : Oth K C B ot) : Oth K C (EX.nt B) ot :=
  let ⟨os, h1, h2, h3⟩ := h
  ⟨os, nt_of h1 (fun ps z => by cases z), h2, fun v hv => let ⟨x, cap, row, e, hb, hn⟩ := h3 v hv; ⟨x, cap, row, e, BenAt.nt hb, hn⟩⟩
def NoTbl (B : Hp) : Prop := ∀ x u, B x = some u → ∀ ps, u ≠ .tbl ps
theorem NoTbl.same_nt {B0 B : Hp} (n : NoTbl B0) (s : Same B0 B) : Same B0 (EX.nt B) := fun x u h => nt_of (s x u h) (n x u h)
/-- what stands -/
structure Hv (K : PySem.W.Frag) (C : Addr) (Ts : List (Addr × Str)) (B0 : Hp) (o : Ob) (wy : Addr) (B H : Hp) (c : Dr) (row : List Int) (past ways : List (List Int)) : Prop where
  n0 : NoTbl B0
  b0 : Same B0 B
  sub : Same B H
  np : B o.p = none
  cell : H o.p = some (.lst [.int c.1, .int c.2])
  ok : OkDr c
  bm : BM K C B H o.b o.dx o.l o.cap row past
  nw : B wy = none
  way : ∃ ws, H wy = some (.lst ws) ∧ DL.DpAll K B ws (ways.map rowD)
  pl : o.p ≠ o.l
  pw : o.p ≠ wy
  wl : wy ≠ o.l
  dr : DL.Dp K B o.vr (rowD o.row0)
  ot : Oth K C B o.ot
  tabs : Tabs Ts H
section
variable {K : PySem.W.Frag} {C : Addr} {Ts : List (Addr × Str)} {B0 B H B' H' : Hp} {o : Ob} {wy : Addr} {c c' : Dr} {row row' : List Int} {past past' ways : List (List Int)}
theorem Hv.grow (h : Hv K C Ts B0 o wy B H c row past ways) (g : Grow B H B' H') : Hv K C Ts B0 o wy B' H' c row past ways := by
  obtain ⟨ws, w1, w2⟩ := h.way
  exact ⟨h.n0, h.b0.trans g.bb, g.bh, g.at_none h.np h.cell, g.hh _ _ h.cell, h.ok, h.bm.grow g, g.at_none h.nw w1, ⟨ws, g.hh _ _ w1, dpAll_mono g.bb _ _ w2⟩, h.pl, h.pw, h.wl, dp_mono g.bb _ _ h.dr, h.ot.mono g.bb, h.tabs.ext g.hh⟩
theorem Hv.pb (h : Hv K C Ts B0 o wy B H c row past ways) : o.b ≠ o.p := fun z => by
  obtain ⟨vN, vs, h1, _⟩ := h.bm.ob
  rw [z, h.cell] at h1; cases h1
theorem Hv.wb (h : Hv K C Ts B0 o wy B H c row past ways) : wy ≠ o.b := fun z => by
  obtain ⟨vN, vs, h1, _⟩ := h.bm.ob
  obtain ⟨ws, w1, _⟩ := h.way
  rw [← z, w1] at h1; cases h1
theorem fw_none {a p : Addr} {u : HO} (f : Fw (some p) c' B H B' H') (n : B a = none) (h : H a = some u) : B' a = none := by
  cases q : B' a with
  | none => rfl
  | some v => rw [f.fresh a v q n] at h; cases h
theorem Hv.fw (h : Hv K C Ts B0 o wy B H c row past ways) (f : Fw (some o.p) c' B H B' H') (ok : OkDr c') : Hv K C Ts B0 o wy B' H' c' row past ways := by
  obtain ⟨ws, w1, w2⟩ := h.way
  obtain ⟨vN, vs, b1, b2, b3, b4⟩ := h.bm.ob
  have kp : ∀ x u, x ≠ o.p → H x = some u → H' x = some u := fun x u n e => f.keep x u (fun z => n (Option.some.inj z).symm) e
  exact ⟨h.n0, h.b0.trans f.bb, f.bh, fw_none f h.np h.cell, f.cell _ rfl, ok, ⟨⟨vN, vs, kp _ _ h.pb b1, dp_mono f.bb _ _ b2, kp _ _ h.pl.symm b3, dpAll_mono f.bb _ _ b4⟩, fw_none f h.bm.nb b1, fw_none f h.bm.nl b3⟩, fw_none f h.nw w1, ⟨ws, kp _ _ h.pw.symm w1, dpAll_mono f.bb _ _ w2⟩, h.pl, h.pw, h.wl, dp_mono f.bb _ _ h.dr, h.ot.mono f.bb,
    fun q hq => TabS.but (h.tabs q hq) h.cell kp⟩
theorem Hv.butc (h : Hv K C Ts B0 o wy B H c row past ways) (e : ButC o.p H H') (hc : H' o.p = some (.lst [.int c'.1, .int c'.2])) (ok : OkDr c') (T' : Tabs Ts H') : Hv K C Ts B0 o wy (EX.nt B) H' c' row past ways := by
  obtain ⟨ws, w1, w2⟩ := h.way
  obtain ⟨vN, vs, b1, b2, b3, b4⟩ := h.bm.ob
  have sb : Same (EX.nt B) H' := fun x u q => e x u (fun z => by rw [z, nt_none h.np] at q; cases q) (h.sub _ _ (nt_some q).1) (nt_some q).2
  exact ⟨h.n0, h.n0.same_nt h.b0, sb, nt_none h.np, hc, ok, ⟨⟨vN, vs, e _ _ h.pb b1 (fun ps z => by cases z), dp_nt _ _ b2, e _ _ h.pl.symm b3 (fun ps z => by cases z), dpAll_nt _ _ b4⟩, nt_none h.bm.nb, nt_none h.bm.nl⟩, nt_none h.nw, ⟨ws, e _ _ h.pw.symm w1 (fun ps z => by cases z), dpAll_nt _ _ w2⟩, h.pl, h.pw, h.wl, dp_nt _ _ h.dr, h.ot.nt, T'⟩
theorem Hv.ext (h : Hv K C Ts B0 o wy B H c row past ways) (e : ExtN H H') (T' : Tabs Ts H') : Hv K C Ts B0 o wy (EX.nt B) H' c row past ways :=
  h.butc (fun x u _ q n => e x u q n) (e _ _ h.cell (fun ps z => by cases z)) h.ok T'
theorem ch_none {a : Addr} {u : HO} {b l : Addr} (f : Ch B H B' H' b l) (n : B a = none) (h : H a = some u) : B' a = none := by
  cases q : B' a with
  | none => rfl
  | some v => rw [f.fresh a v q n] at h; cases h
theorem TabS.but2 {H H' : Hp} {P b l : Addr} {q : Str} {u v : HO} (t : TabS H P q) (hb : H b = some u) (hl : H l = some v) (ub : (∀ ps, u ≠ .tbl ps) ∧ ∀ c q, u ≠ CodeO c q) (vb : (∀ ps, v ≠ .tbl ps) ∧ ∀ c q, v ≠ CodeO c q) (e : ∀ x w, x ≠ b → x ≠ l → H x = some w → H' x = some w) : TabS H' P q := by
  obtain ⟨ps, h1, h2, h3⟩ := t
  refine ⟨ps, e _ _ (fun z => ?_) (fun z => ?_) h1, h2, fun pos cv hc => ?_⟩
  · rw [z, hb] at h1; exact ub.1 _ (Option.some.inj h1)
  · rw [z, hl] at h1; exact vb.1 _ (Option.some.inj h1)
  · obtain ⟨c, e1, e2⟩ := h3 pos cv hc
    refine ⟨c, e1, e _ _ (fun z => ?_) (fun z => ?_) e2⟩
    · rw [z, hb] at e2; exact ub.2 _ _ (Option.some.inj e2)
    · rw [z, hl] at e2; exact vb.2 _ _ (Option.some.inj e2)
theorem lst_no {xs : List V} : (∀ ps, HO.lst xs ≠ .tbl ps) ∧ ∀ c q, HO.lst xs ≠ CodeO c q := ⟨fun ps z => (by cases z), fun c q z => by unfold CodeO at z; cases z⟩
theorem ins_no {C dx : Addr} {fs : List (Str × V)} : (∀ ps, HO.ins C dx fs ≠ .tbl ps) ∧ ∀ c q, HO.ins C dx fs ≠ CodeO c q := ⟨fun ps z => (by cases z), fun c q z => by unfold CodeO at z; cases z⟩
theorem Hv.ch (h : Hv K C Ts B0 o wy B H c row past ways) (g : Ch B H B' H' o.b o.l) (m : BM K C B' H' o.b o.dx o.l o.cap row' past') : Hv K C Ts B0 o wy B' H' c row' past' ways := by
  obtain ⟨ws, w1, w2⟩ := h.way
  obtain ⟨vN, vs, b1, b2, b3, b4⟩ := h.bm.ob
  exact ⟨h.n0, h.b0.trans g.bb, g.bh, ch_none g h.np h.cell, g.keep _ _ h.pb.symm h.pl h.cell, h.ok, m, ch_none g h.nw w1, ⟨ws, g.keep _ _ h.wb h.wl w1, dpAll_mono g.bb _ _ w2⟩, h.pl, h.pw, h.wl, dp_mono g.bb _ _ h.dr, h.ot.mono g.bb,
    fun q hq => TabS.but2 (h.tabs q hq) b1 b3 ins_no lst_no fun x w n1 n2 => g.keep x w n1 n2⟩
/-- one more on the way -/
theorem Hv.push {r : List Int} {v : V} {ws : List V} (h : Hv K C Ts B0 o wy B H c row past ways) (hw : H wy = some (.lst ws)) (dw : DL.DpAll K B ws (ways.map rowD)) (dv : DL.Dp K B v (rowD r)) : Hv K C Ts B0 o wy B (upd H wy (.lst (ws ++ [v]))) c row past (ways ++ [r]) := by
  obtain ⟨vN, vs, b1, b2, b3, b4⟩ := h.bm.ob
  have kp : ∀ x u, x ≠ wy → H x = some u → upd H wy (.lst (ws ++ [v])) x = some u := fun x u n e => by rw [upd_ne n]; exact e
  exact ⟨h.n0, h.b0, fun x u q => kp x u (fun z => by rw [z, h.nw] at q; cases q) (h.sub x u q), h.np, kp _ _ h.pw h.cell, h.ok, ⟨⟨vN, vs, kp _ _ h.wb.symm b1, b2, kp _ _ h.wl.symm b3, b4⟩, h.bm.nb, h.bm.nl⟩, h.nw,
    ⟨ws ++ [v], upd_same, by rw [List.map_append]; exact dpAll_append dw (.cons dv .nil)⟩, h.pl, h.pw, h.wl, h.dr, h.ot, fun q hq => TabS.but (h.tabs q hq) hw kp⟩
/-- another way -/
theorem Hv.rway {wy' : Addr} {ws : List V} {ways' : List (List Int)} (h : Hv K C Ts B0 o wy B H c row past ways) (s : Same H H') (n : H wy' = none) (hw : H' wy' = some (.lst ws)) (dw : DL.DpAll K B ws (ways'.map rowD)) : Hv K C Ts B0 o wy' B H' c row past ways' := by
  have g : Grow B H B H' := grow_same h.sub s
  obtain ⟨vN, vs, b1, b2, b3, b4⟩ := h.bm.ob
  exact ⟨h.n0, h.b0, g.bh, h.np, s _ _ h.cell, h.ok, h.bm.grow g, h.sub.free n, ⟨ws, hw, dw⟩, h.pl, (fun z => by rw [← z, h.cell] at n; cases n), (fun z => by rw [z, b3] at n; cases n), h.dr, h.ot, h.tabs.ext s⟩
end
end X
/-! X41z: what the law's turns read. -/
namespace X
open PySem PySem.Spec PyProof.Rows L2 DL DM EX LamX
section
variable {K : PySem.W.Frag} {mg : Str → Option Value} {C : Addr} {Ts : List (Addr × Str)} {B0 B H B' H' : Hp} {o : Ob} {wy : Addr} {c c' : Dr} {row row' : List Int} {past past' ways : List (List Int)} {σ : L2.St} {Q : VK}
theorem hv_draw (hs : σ[2]? = some (some (.ref o.p))) (h : Hv K C Ts B0 o wy B H c row past ways) {m : Int} (h1 : 1 ≤ m) (h2 : m ≤ 1000) (q : ∀ (r : Int) B' H' c', 0 ≤ r → r < m → Same B B' → Hv K C Ts B0 o wy B' H' c' row past ways → Q (.int r) H') : tCall (spD K F_l_draw) [] C8.E0 (tCons (tVar 2) (tCons (tC (.int m)) tNil)) σ H Q := by
  obtain ⟨d, c', e, r, rfl, r0, r1, ok⟩ := F_l_draw_eq (m := m) (c := c) h1 (by omega) h.ok
  refine ⟨.ref o.p, hs, ?_⟩
  refine ⟨o.p, [.int m], [.int m], B, c, _, c', rfl, h.sub, h.np, h.cell, .cons (.int _) .nil, e, fun v B' H' f dv => ?_⟩
  cases dp_int dv
  exact q r B' H' c' r0 r1 f.bb (h.fw f ok)
theorem deed_dd {P : Nat} {d : D} (h : Deed P d) : ∃ e : Dd, d = e.toD := by
  rcases h with rfl | ⟨x, y, _, _, rfl⟩ | ⟨w, hw, x, _, rfl⟩
  · exact ⟨.turn, rfl⟩
  · exact ⟨.exch x y, rfl⟩
  · rcases hw with rfl | rfl
    · exact ⟨.put x, rfl⟩
    · exact ⟨.take x, rfl⟩
theorem hv_deed (hs : Sv o wy σ) (h : Hv K C Ts B0 o wy B H c row past ways) (h1 : 1 ≤ o.row0.length) (h2 : o.row0.length ≤ 24) (q : ∀ (v : V) (e : Dd) B' H' c', Same B B' → Hv K C Ts B0 o wy B' H' c' row past ways → DL.Dp K B' v e.toD → Q v H') :
    tCall (spD K F_l_a_deed) [] C8.E0 (tCons (tVar 2) (tCons (tCB (rLenS K) (tCons (tVar 4) tNil)) tNil)) σ H Q := by
  obtain ⟨d, c', e, hd, ok⟩ := F_l_a_deed_eq (P := o.row0.length) (c := c) h1 h2 h.ok
  obtain ⟨dd, rfl⟩ := deed_dd hd
  obtain ⟨a, xs, ev, ha, dx⟩ := dp_tuple h.dr
  refine ⟨.ref o.p, hs.s2, o.vr, hs.s4, a, xs, by rw [ev], .inr (SqT.of (h.sub _ _ ha)), ?_⟩
  refine ⟨o.p, [.int xs.length], [.int o.row0.length], B, c, _, c', rfl, h.sub, h.np, h.cell, .cons ?_ .nil, e, fun v B' H' f dv => q v dd B' H' c' f.bb (h.fw f ok) dv⟩
  rw [dpAll_len dx, iL_len]
  exact .int _
theorem hv_last (hs : Sv o wy σ) (h : Hv K C Ts B0 o wy B H c row past (ways ++ [row'])) (q : ∀ v, DL.Dp K B v (rowD row') → Q v H) : tOp (rIx K) (tVar 6) (tUn (rU fun i => .int (-i)) (tC (.int 1))) σ H Q := by
  obtain ⟨ws, w1, w2⟩ := h.way
  rw [List.map_append] at w2
  obtain ⟨v, e1, dv⟩ := dpAll_at w2 (atI_last (ways.map rowD) (rowD row'))
  exact ⟨.ref wy, hs.s6, 1, rfl, .inl ⟨wy, ws, -1, v, rfl, rfl, SqL.of w1, e1, q v dv⟩⟩
theorem hv_len (hs : Sv o wy σ) (h : Hv K C Ts B0 o wy B H c row past ways) (q : Q (.int ways.length) H) : tCB (rLenS K) (tCons (tVar 6) tNil) σ H Q := by
  obtain ⟨ws, w1, w2⟩ := h.way
  refine ⟨.ref wy, hs.s6, wy, ws, rfl, .inl (SqL.of w1), ?_⟩
  rw [dpAll_len w2, List.length_map]
  exact q
theorem hv_of (hs : Sv o wy σ) (h : Hv K C Ts B0 o wy B H c row past ways) (q : ∀ (x : Addr) (cap : Int) (rw : List Int) B' H' c', Same B B' → Hv K C Ts B0 o wy B' H' c' row past ways → BenAt K C B' x cap rw → rw.length ≤ 1000 → Q (.ref x) H') :
    tCall (spOfR K) [] C8.E0 (tCons (tVar 2) (tCons (tVar 7) tNil)) σ H Q := by
  obtain ⟨os, h1, h2, h3⟩ := h.ot
  refine ⟨.ref o.p, hs.s2, .ref o.ot, hs.s7, o.p, o.ot, os, B, c, rfl, h.sub, h.np, h.cell, h.ok, h1, by omega, by omega, fun v B' H' c' hv ok f => ?_⟩
  obtain ⟨x, cap, rw', rfl, hb, hn⟩ := h3 v hv
  exact q x cap rw' B' H' c' f.bb (h.fw f ok) (hb.mono f.bb) hn
/-- the bench stands for the time of a call -/
theorem Hv.put (h : Hv K C Ts B0 o wy B H c row past ways) : ∃ u, Same (upd B o.b u) H ∧ Same B (upd B o.b u) ∧ BenAt K C (upd B o.b u) o.b o.cap row := by
  obtain ⟨vN, vs, b1, b2, b3, b4⟩ := h.bm.ob
  have sm : Same B (upd B o.b (.ins C o.dx (bfl o.cap vN o.l))) := same_upd h.bm.nb
  exact ⟨_, same_put h.sub b1, sm, ⟨o.dx, vN, o.l, upd_same, dp_mono sm _ _ b2⟩⟩
theorem hv_stands {x : Addr} {capx : Int} {rowx : List Int} {rv : V} {E : XK} (h : Hv K C Ts B0 o wy B H c row past ways) (hx : BenAt K C B x capx rowx) (xn : rowx.length ≤ 1000) (dv : DL.Dp K B rv (rowD row)) (n1 : 1 ≤ row.length) (n2 : row.length ≤ 1000)
    (q : ∀ H' c', Hv K C Ts B0 o wy (EX.nt B) H' c' row past ways → Q (.bl true) H') : spSS K C Ts [.ref o.p, .ref o.b, rv, .ref x] H Q E := by
  obtain ⟨u, s1, s2, hb⟩ := h.put
  refine ⟨o.p, o.b, x, rv, upd B o.b u, c, o.cap, capx, row, rowx, rfl, s1, by rw [upd_ne h.pb.symm]; exact h.np, h.cell, h.ok, hb, hx.mono s2, dp_mono s2 _ _ dv, n1, n2, xn, h.tabs, fun H' c' e hc ok T' => ?_⟩
  exact q H' c' (h.butc e hc ok T')
/-- what is told of a deed's end -/
inductive OcT (U : TC K mg) (row : List Int) (past : List (List Int)) : Oc → D → List Int → List (List Int) → Prop
  | ok (r : List Int) (p : List (List Int)) : OcT U row past (.ok r p) (.tuple [.str "told", .none]) r p
  | left : OcT U row past (.ex U.C_NothingLeft) (.tuple [.str "NothingLeft NowError +"]) row past
  | place : OcT U row past (.ex U.C_NoPlace) (.tuple [.str "FormError NoPlace +"]) row past
  | full (p : Int) : OcT U row past (.exP U.C_Full p) (.tuple [.str "Full NowError +", .int p]) row past
  | empty (p : Int) : OcT U row past (.exP U.C_Empty p) (.tuple [.str "Empty NowError +", .int p]) row past
theorem ocT_ne {U : TC K mg} {r : Oc} {d : D} (h : OcT U row past r d row' past') : neD d d = some (.bool false) := by
  have two : ∀ {a : Str} {x : D}, (PyData.str a).canLay0 = true → Pln 0 x → neD (.tuple [.str a, x]) (.tuple [.str a, x]) = some (.bool false) := fun {a x} la px => by
    have pl : Pln 1 (.tuple [.str a, x]) := .tuple fun d hd => by
      simp only [List.mem_cons, List.not_mem_nil, or_false] at hd
      rcases hd with rfl | rfl
      · exact pln_str la
      · exact px
    exact neD_b (b := true) pl pl (by decide) ⟨fun _ => rfl, fun _ => rfl⟩
  cases h with
  | ok => exact two (by decide +kernel) pln_none
  | left => exact ne_t1 (by decide +kernel)
  | place => exact ne_t1 (by decide +kernel)
  | full p => exact two (by decide +kernel) pln_int
  | empty p => exact two (by decide +kernel) pln_int
/-- told(lambda ..) != due -/
theorem lam_oc {U : TC K mg} {r : Oc} {d : D} {t : XK → L2.TE} {tu : L2.TE} {v : TS} {D0 : Ends} (h : Hv K C Ts B0 o wy B H c row past ways) (hr : OcT U row past r d row' past')
    (ht : ∀ H1, Hv K C Ts B0 o wy (EX.nt B) H1 c row past ways → ∀ Ech Nd, r.want K C (EX.nt B) H1 o.b o.dx o.l o.cap Nd Ech → t Ech σ H1 Nd)
    (hu : ∀ B2 H2 (Q' : VK), Same (EX.nt B) B2 → Same B2 H2 → (∀ u B3 H3, Grow B2 H2 B3 H3 → DL.Dp K B3 u d → Q' u H3) → tu σ H2 Q')
    (q : ∀ B' H', Same (EX.nt B) B' → Hv K C Ts B0 o wy B' H' c row' past' ways → D0.nx σ H') : tIfS (tTest (tOp (rNeD K) (tLam Ts (TTg K mg U) t) tu)) v tNext D0 σ H := by
  refine ⟨h.tabs, fun H1 e1 T1 Ech Nd hE hN => ?_⟩
  have h1 := h.ext e1 T1
  have fin : ∀ w B3 H3, Hv K C Ts B0 o wy B3 H3 c row' past' ways → DL.Dp K B3 w d → Same (EX.nt B) B3 → tu σ H3 fun u H4 => rNeD K w u H4 fun x H5 => ∃ b, x = .bl b ∧ (if b = true then v D0 σ H5 else D0.nx σ H5) := fun w B3 H3 h3 dw s3 => by
    refine hu B3 H3 _ s3 h3.sub fun u B4 H4 g4 du => ?_
    refine d_ne _ _ _ _ _ _ (.bool false) _ g4.bh (dp_mono g4.bb _ _ dw) du (ocT_ne hr) fun y B5 H5 g5 dy => ⟨false, dp_bool dy, ?_⟩
    rw [if_neg Bool.false_ne_true]
    exact q B5 H5 ((s3.trans g4.bb).trans g5.bb) ((h3.grow g4).grow g5)
  refine ht H1 h1 Ech Nd ?_
  cases hr with
  | ok r p =>
    intro B' H' ch m
    refine hN .non H' fun a na => ?_
    have h2 := h1.ch ch m
    obtain ⟨g, dd⟩ := Grow.newTup (K := K) (vs := [.str "told", .non]) (ds := [.str "told", .none]) h2.sub na (.cons (.str _) (.cons .non .nil))
    exact fin _ _ _ (h2.grow g) dd (ch.bb.trans g.bb)
  | left =>
    intro B' H' g
    have h2 := h1.grow g
    exact hE _ _ _ (.inr (.inr (.inr (.inr (.inl ⟨rfl, rfl, B', g.bh, fun w B3 H3 g3 dw => fin w B3 H3 (h2.grow g3) dw (g.bb.trans g3.bb)⟩)))))
  | place =>
    intro B' H' g
    have h2 := h1.grow g
    exact hE _ _ _ (.inr (.inr (.inl ⟨rfl, rfl, B', g.bh, fun w B3 H3 g3 dw => fin w B3 H3 (h2.grow g3) dw (g.bb.trans g3.bb)⟩)))
  | full p =>
    intro B' H' a g na
    have g2 := Grow.new (o := .xd [(("place" : Str), V.int p)]) g.bh na
    have h2 := (h1.grow g).grow g2
    exact hE _ _ _ (.inr (.inr (.inr (.inr (.inr (.inl ⟨rfl, a, p, _, rfl, g2.bh, upd_same, fun w B3 H3 g3 dw => fin w B3 H3 (h2.grow g3) dw ((g.bb.trans g2.bb).trans g3.bb)⟩))))))
  | empty p =>
    intro B' H' a g na
    have g2 := Grow.new (o := .xd [(("place" : Str), V.int p)]) g.bh na
    have h2 := (h1.grow g).grow g2
    exact hE _ _ _ (.inr (.inr (.inr (.inr (.inr (.inr ⟨rfl, a, p, _, rfl, g2.bh, upd_same, fun w B3 H3 g3 dw => fin w B3 H3 (h2.grow g3) dw ((g.bb.trans g2.bb).trans g3.bb)⟩))))))
end
end X
/-! X41za: a turn that goes back. -/
namespace X
open PySem PySem.Spec PyProof.Rows L2 DL DM EX LamX
abbrev tM1 : L2.TE := tUn (rU fun i => .int (-i)) (tC (.int 1))
abbrev tLast (K : PySem.W.Frag) : L2.TE := tOp (rIx K) (tVar 6) tM1
abbrev tTold2 : L2.TE := tTup (tCons (tC (.str (Str.ofString "told"))) (tCons (tC .non) tNil))
def tTurnB (K : PySem.W.Frag) (mg : Str → Option Value) (U : TC K mg) (C : Addr) (Ts : List (Addr × Str)) : TS :=
  tSeq (tAsg (tIf (tTest (tOp (rI0 fun i j => .bl (decide (j < i))) (tCB (rLenS K) (tCons (tVar 6) tNil)) (tC (.int 1)))) tTold2 (tTup (tCons (tC (.str (Str.ofString "NothingLeft NowError +"))) tNil))) (gName 9))
  (tSeq (tIfS (tTest (tOp (rNeD K) (tLam Ts (TTg K mg U) fun E => tMeth C (Str.ofString "back") (spM K C 0 (backR U.C_NothingLeft)) [] E (tVar 5) tNil) (tVar 9))) (tRet (tC (.bl false))) tNext)
  (tAsg (tOp (rAddA K) (tSl (rSlX K) (tVar 6) tNoPart (tPart (tC (.int 1)))) (tSl (rSlX K) (tVar 6) (tPart (tC (.int 1))) (tPart tM1))) (gName 6)))
theorem cut_one {α : Type} (x : α) : cutL [x] none (some 1) ++ cutL [x] (some 1) (some (-1)) = [x] := rfl
theorem cut_more {α : Type} (W : List α) (z : α) (h : 1 ≤ W.length) : cutL (W ++ [z]) none (some 1) ++ cutL (W ++ [z]) (some 1) (some (-1)) = W := by
  match W, h with
  | x :: m, _ =>
    have e1 : HT.sIx ((x :: m) ++ [z]).length ((x :: m) ++ [z]).length (some 1) = 1 := by
      show HT.sIx _ _ (some ((1 : Nat) : Int)) = 1
      rw [HT.sIx_nat, List.length_append, List.length_cons]
      show min 1 (m.length + 1 + 1) = 1
      omega
    have e2 : HT.sIx ((x :: m) ++ [z]).length 0 (some 1) = 1 := by
      show HT.sIx _ _ (some ((1 : Nat) : Int)) = 1
      rw [HT.sIx_nat, List.length_append, List.length_cons]
      show min 1 (m.length + 1 + 1) = 1
      omega
    have e3 : HT.sIx ((x :: m) ++ [z]).length ((x :: m) ++ [z]).length (some (-1)) = m.length + 1 := by
      simp only [HT.sIx]
      rw [if_pos (by decide), List.length_append, List.length_cons]
      show ((-1 : Int) + ((m.length + 1 + 1 : Nat) : Int)).toNat = m.length + 1
      omega
    unfold cutL
    rw [e1, e2, e3, HT.sIx_none]
    show x :: ((m ++ [z]).take 0 ++ (m ++ [z]).take (m.length + 1 - 1)) = x :: m
    rw [List.take_zero, List.nil_append, Nat.add_sub_cancel, List.take_left]
section
variable {K : PySem.W.Frag} {mg : Str → Option Value} {Ts : List (Addr × Str)} {B0 B H B' H' : Hp} {o : Ob} {wy : Addr} {c c' : Dr} {row row' : List Int} {past past' ways : List (List Int)} {σ : L2.St} {Q : VK}
/-- (told, None) -/
theorem told2_read {B2 H2 : Hp} (s : Same B2 H2) (q : ∀ v B3 H3, Grow B2 H2 B3 H3 → DL.Dp K B3 v (.tuple [.str "told", .none]) → Q v H3) : tTold2 σ H2 Q := by
  refine ⟨by show 2 ≤ sizeLine; decide, fun p np => ?_⟩
  obtain ⟨g, d⟩ := Grow.newTup (K := K) (vs := [.str "told", .non]) (ds := [.str "told", .none]) s np (.cons (.str _) (.cons .non .nil))
  exact q _ _ _ g d
/-- way[:1] + way[1:-1] -/
theorem hv_way {C : Addr} {W : List (List Int)} {D0 : Ends} (hs : Sv o wy σ) (h : Hv K C Ts B0 o wy B H c row past ways) (hl : ways.length ≤ 1000) (hW : cutL ways none (some 1) ++ cutL ways (some 1) (some (-1)) = W) (q : ∀ wy' H', Sv o wy' (σ.set 6 (some (.ref wy'))) → Hv K C Ts B0 o wy' B H' c row past W → D0.nx (σ.set 6 (some (.ref wy'))) H') :
    tAsg (tOp (rAddA K) (tSl (rSlX K) (tVar 6) tNoPart (tPart (tC (.int 1)))) (tSl (rSlX K) (tVar 6) (tPart (tC (.int 1))) (tPart tM1))) (gName 6) D0 σ H := by
  obtain ⟨ws, w1, w2⟩ := h.way
  refine ⟨.ref wy, hs.s6, 1, rfl, .inl ⟨wy, ws, rfl, SqL.of w1, fun p1 np1 => ?_⟩⟩
  have hw1 : wy ≠ p1 := fun z => by rw [z, np1] at w1; cases w1
  refine ⟨.ref wy, hs.s6, 1, rfl, 1, rfl, -1, rfl, .inl ⟨wy, ws, rfl, SqL.of (by rw [upd_ne hw1]; exact w1), fun p2 np2 => ?_⟩⟩
  have h12 : p1 ≠ p2 := fun z => by rw [← z, upd_same] at np2; cases np2
  have lw : ws.length ≤ 1000 := by rw [dpAll_len w2, List.length_map]; exact hl
  have l1 := cutV_length ws none (some 1)
  have l2 := cutV_length ws (some 1) (some (-1))
  refine .inr (.inl ⟨p1, p2, _, _, rfl, rfl, by rw [upd_ne h12, upd_same], upd_same, by rw [sizeLine_eq]; omega, fun p3 np3 => ?_⟩)
  have s1 := same_new (H := H) (o := .lst (cutV ws none (some 1))) np1
  have s2 := s1.trans (same_new (o := .lst (cutV ws (some 1) (some (-1)))) np2)
  have s3 := s2.trans (same_new (o := .lst (cutV ws none (some 1) ++ cutV ws (some 1) (some (-1)))) np3)
  refine q p3 _ hs.way (h.rway s3 (s2.free np3) upd_same ?_)
  have d := dpAll_append (dpAll_cut none (some 1) w2) (dpAll_cut (some 1) (some (-1)) w2)
  have e : cutL (ways.map rowD) none (some 1) ++ cutL (ways.map rowD) (some 1) (some (-1)) = W.map rowD := by
    rw [← hW, List.map_append]
    unfold cutL
    rw [List.length_map, List.map_take, List.map_take, List.map_drop, List.map_drop]
  rw [e] at d
  exact d
theorem turnB_ok (Z : TB K mg) (U : TC K mg) {D0 : Ends} (hs : Sv o wy σ) (h : Hv K Z.C Ts B0 o wy B H c row past (past ++ [row])) (hn : row.length ≤ 1000) (hk : past.length ≤ 900)
    (q : ∀ wy' σ' B' H' row' past', (past = [] ∧ row' = row ∧ past' = []) ∨ past = past' ++ [row'] → Sv o wy' σ' → Hv K Z.C Ts B0 o wy' B' H' c row' past' (past' ++ [row']) → D0.nx σ' H') : tTurnB K mg U Z.C Ts D0 σ H := by
  unfold tTurnB tSeq tAsg tIf
  refine hv_len hs h ⟨_, _, rfl, rfl, _, rfl, ?_⟩
  have len1 : (((past ++ [row]).length : Nat) : Int) = past.length + 1 := by rw [List.length_append]; rfl
  have tail : ∀ (d : D) (r : Oc) (row' : List Int) (past' : List (List Int)), OcT U row past r d row' past' → r = backR U.C_NothingLeft o.cap row past [] → ((past = [] ∧ row' = row ∧ past' = []) ∨ past = past' ++ [row']) →
      ∀ v B1 H1, Grow B H B1 H1 → DL.Dp K B1 v d → tSeq (tIfS (tTest (tOp (rNeD K) (tLam Ts (TTg K mg U) fun E => tMeth Z.C (Str.ofString "back") (spM K Z.C 0 (backR U.C_NothingLeft)) [] E (tVar 5) tNil) (tVar 9))) (tRet (tC (.bl false))) tNext)
        (tAsg (tOp (rAddA K) (tSl (rSlX K) (tVar 6) tNoPart (tPart (tC (.int 1)))) (tSl (rSlX K) (tVar 6) (tPart (tC (.int 1))) (tPart tM1))) (gName 6)) D0 (σ.set 9 (some v)) H1 := fun d r row' past' ot er hp v B1 H1 g dv => by
    have h1 := h.grow g
    have hs1 := hs.set (i := 9) (by decide) (some v)
    refine lam_oc h1 ot (fun H2 h2 Ech Nd hw => ?_) (fun B2 H2 Q' s2 sB q' => ⟨v, hs.at (by decide) _, q' v B2 H2 (Grow.refl sB) (dp_mono s2 _ _ (dp_nt _ _ dv))⟩) fun B2 H2 s2 h2 => ?_
    · refine meth_do (F := backR U.C_NothingLeft) (ds := []) (by decide +kernel) hs1.s5 h2.bm (fun Q' q' => q' [] _ H2 (Grow.refl h2.sub) rfl .nil) hn (by omega) ?_
      have e : backR U.C_NothingLeft o.cap row past [] = r := er.symm
      rw [e]
      exact hw
    · dsimp only
      refine hv_way (W := past' ++ [row']) hs1 h2 (by rw [List.length_append]; show past.length + 1 ≤ 1000; omega) ?_ fun wy' H3 hs3 h3 => q wy' _ B2 H3 row' past' hp hs3 h3
      rcases hp with ⟨e1, e2, e3⟩ | e1
      · subst e1; subst e2; subst e3; exact cut_one _
      · rw [e1]; exact cut_more _ _ (by rw [List.length_append]; show 1 ≤ past'.length + 1; omega)
  rcases List.eq_nil_or_concat past with e0 | ⟨L, z, e0⟩
  · have e1 : decide ((1 : Int) < (((past ++ [row]).length : Nat) : Int)) = false := by rw [len1, e0]; rfl
    rw [e1]
    dsimp only
    rw [if_neg Bool.false_ne_true]
    refine ⟨by show 1 ≤ sizeLine; decide, fun p np => ?_⟩
    obtain ⟨g, d⟩ := Grow.newTup (K := K) (vs := [.str "NothingLeft NowError +"]) (ds := [.str "NothingLeft NowError +"]) h.sub np (.cons (.str _) .nil)
    exact tail _ (.ex U.C_NothingLeft) row past .left (by rw [e0]; rfl) (.inl ⟨e0, rfl, e0⟩) _ _ _ g d
  · have e0' : past = L ++ [z] := by rw [e0, List.concat_eq_append]
    have e1 : decide ((1 : Int) < (((past ++ [row]).length : Nat) : Int)) = true := by
      refine decide_eq_true ?_
      rw [len1, e0', List.length_append]
      show (1 : Int) < ((L.length + 1 : Nat) : Int) + 1
      omega
    rw [e1]
    dsimp only
    rw [if_pos rfl]
    refine told2_read (K := K) h.sub fun v B1 H1 g d => ?_
    refine tail _ (.ok z L) z L (.ok z L) ?_ (.inr e0') _ _ _ g d
    show _ = (match past.getLast? with | some r => Oc.ok r past.dropLast | none => .ex U.C_NothingLeft)
    rw [e0', List.getLast?_concat, List.dropLast_concat]
end
end X
/-! X41zb: a turn with a deed; a turn. -/
namespace X
open PySem PySem.Spec PyProof.Rows L2 DL DM EX LamX
abbrev tThere (K : PySem.W.Frag) : TT := tTest (tOp (rEqD K) (tOp (rIx K) (tVar 9) (tC (.int 0))) (tC (.str (Str.ofString "there"))))
def tTurnD (K : PySem.W.Frag) (mg : Str → Option Value) (U : TC K mg) (C : Addr) (Ts : List (Addr × Str)) : TS :=
  tSeq (tAsg (tCall (spD K F_l_a_deed) [] C8.E0 (tCons (tVar 2) (tCons (tCB (rLenS K) (tCons (tVar 4) tNil)) tNil))) (gName 10))
  (tSeq (tAsg (tCall (spP K F_l_bench_due) [] C8.E0 (tCons (tVar 3) (tCons (tLast K) (tCons (tVar 10) tNil)))) (gName 9))
  (tSeq (tIfS (tTest (tOp (rNeD K) (tLam Ts (TTg K mg U) fun E => tCall (spDone K mg U C) [] E (tCons (tVar 5) (tCons (tVar 10) tNil))) (tIf (tThere K) tTold2 (tVar 9)))) (tRet (tC (.bl false))) tNext)
  (tIfS (tThere K) (tDrop (tBM K "list" rAppend (tVar 6) (tCons (tOp (rIx K) (tVar 9) (tC (.int 1))) tNil))) tNext)))
def tStands (K : PySem.W.Frag) (C : Addr) (Ts : List (Addr × Str)) : TS := tIfS (tNot (tB (tCall (spSS K C Ts) [] C8.E0 (tCons (tVar 2) (tCons (tVar 5) (tCons (tLast K) (tCons (tCall (spOfR K) [] C8.E0 (tCons (tVar 2) (tCons (tVar 7) tNil))) tNil))))))) (tRet (tC (.bl false))) tNext
def tTurn (K : PySem.W.Frag) (mg : Str → Option Value) (U : TC K mg) (C : Addr) (Ts : List (Addr × Str)) : TS :=
  tSeq (tIfS (tTest (tOp (rEqD K) (tCall (spD K F_l_draw) [] C8.E0 (tCons (tVar 2) (tCons (tC (.int 9)) tNil))) (tC (.int 0)))) (tTurnB K mg U C Ts) (tTurnD K mg U C Ts)) (tStands K C Ts)
def isThere : Out → Bool
  | .there _ => true
  | _ => false
theorem out_word (out : Out) : ∃ (a : Str) (ds : List D), out.toD = .tuple (.str a :: ds) ∧ (PyData.str a).canLay0 = true ∧ decide (a = ("there" : Str)) = isThere out := by
  cases out with
  | there r => exact ⟨"there", _, rfl, by decide +kernel, show decide (("there" : Str) = "there") = true by decide +kernel⟩
  | no => exact ⟨_, _, rfl, by decide +kernel, by decide +kernel⟩
  | full p => exact ⟨"Full NowError +", _, rfl, by decide +kernel, show decide (("Full NowError +" : Str) = "there") = false by decide +kernel⟩
  | empty p => exact ⟨"Empty NowError +", _, rfl, by decide +kernel, show decide (("Empty NowError +" : Str) = "there") = false by decide +kernel⟩
theorem due_len {cap : Int} {row r : List Int} {e : Dd} (h : due cap row e = .there r) : r.length = row.length := by
  cases e with
  | turn => cases h; exact List.length_reverse
  | exch x y =>
    have h : (match good row.length x, good row.length y with | some p, some q => Out.there ((row.set p (gI row q)).set q (gI row p)) | _, _ => .no) = .there r := h
    split at h
    · cases h; rw [List.length_set, List.length_set]
    · cases h
  | put x =>
    have h : (match good row.length x with | some p => if gI row p = cap then Out.full p else .there (row.set p (gI row p + 1)) | none => .no) = .there r := h
    split at h
    · split at h
      · cases h
      · cases h; rw [List.length_set]
    · cases h
  | take x =>
    have h : (match good row.length x with | some p => if gI row p = 0 then Out.empty p else .there (row.set p (gI row p - 1)) | none => .no) = .there r := h
    split at h
    · split at h
      · cases h
      · cases h; rw [List.length_set]
    · cases h
section
variable {K : PySem.W.Frag} {mg : Str → Option Value} {Ts : List (Addr × Str)} {B0 B H B' H' : Hp} {o : Ob} {wy : Addr} {c c' : Dr} {row row' : List Int} {past past' ways : List (List Int)} {σ : L2.St} {Q : VK}
theorem there_read {out : Out} {v : V} {R : Bool → Hp → Prop} (s9 : σ[9]? = some (some v)) (sB : Same B H) (dv : DL.Dp K B v out.toD) (q : ∀ B3 H3, Grow B H B3 H3 → R (isThere out) H3) : tThere K σ H R := by
  obtain ⟨a, ds, e, la, hw⟩ := out_word out
  refine ix_read (i := 9) s9 sB dv (z := .str a) (by rw [e, ev_ixT]; exact atI_nat (j := 0) rfl) fun u B1 H1 g1 du => ?_
  cases dp_str du
  unfold tC
  refine d_eq B1 H1 (.str a) (.str "there") (.str a) (.str "there") _ _ g1.bh (.str a) (.str "there") (eqD_str la (by decide +kernel)) fun y B2 H2 g2 dy => ⟨_, dp_bool dy, ?_⟩
  rw [hw]
  exact q B2 H2 (g1.trans g2)
theorem turnD_ok (Z : TB K mg) (U : TC K mg) {D0 : Ends} (hs : Sv o wy σ) (h : Hv K Z.C Ts B0 o wy B H c row past (past ++ [row])) (hn : row.length ≤ 1000) (hk : past.length ≤ 900) (l1 : 1 ≤ o.row0.length) (l2 : o.row0.length ≤ 24)
    (q : ∀ σ' B' H' c' row' past', (row' = row ∧ past' = past) ∨ (past' = past ++ [row] ∧ row'.length = row.length) → Sv o wy σ' → Hv K Z.C Ts B0 o wy B' H' c' row' past' (past' ++ [row']) → D0.nx σ' H') : tTurnD K mg U Z.C Ts D0 σ H := by
  unfold tTurnD tSeq tAsg
  refine hv_deed hs h l1 l2 fun v e B1 H1 c1 s1 h1 dv => ?_
  have hs1 := hs.set (i := 10) (by decide) (some v)
  have s10 : (σ.set 10 (some v))[10]? = some (some v) := hs.at (by decide) _
  unfold gName
  dsimp only
  refine ⟨.int o.cap, hs1.s3, ?_⟩
  refine hv_last hs1 h1 fun u du => ?_
  refine ⟨v, s10, [.int o.cap, rowD row, e.toD], B1, _, h1.sub, .cons (.int _) (.cons du (.cons dv .nil)), F_l_bench_due_eq hn e, fun x B2 H2 g2 dx => ?_⟩
  have h2 := h1.grow g2
  have hs2 := hs1.set (i := 9) (by decide) (some x)
  have t9 : ((σ.set 10 (some v)).set 9 (some x))[9]? = some (some x) := hs1.at (by decide) _
  have t10 : ((σ.set 10 (some v)).set 9 (some x))[10]? = some (some v) := by rw [List.getElem?_set_ne (by decide)]; exact s10
  have main : ∀ (d : D) (row' : List Int) (past' : List (List Int)), OcT U row past (dueO U o.cap row past e) d row' past' → (∀ (B3 H3 : Hp) (Q' : VK), Same (EX.nt B2) B3 → Same B3 H3 → (∀ u B4 H4, Grow B3 H3 B4 H4 → DL.Dp K B4 u d → Q' u H4) → tIf (tThere K) tTold2 (tVar 9) ((σ.set 10 (some v)).set 9 (some x)) H3 Q') →
      (∀ B3 H3, Same (EX.nt B2) B3 → Hv K Z.C Ts B0 o wy B3 H3 c1 row' past' (past ++ [row]) → tIfS (tThere K) (tDrop (tBM K "list" rAppend (tVar 6) (tCons (tOp (rIx K) (tVar 9) (tC (.int 1))) tNil))) tNext D0 ((σ.set 10 (some v)).set 9 (some x)) H3) →
      tIfS (tTest (tOp (rNeD K) (tLam Ts (TTg K mg U) fun E => tCall (spDone K mg U Z.C) [] E (tCons (tVar 5) (tCons (tVar 10) tNil))) (tIf (tThere K) tTold2 (tVar 9)))) (tRet (tC (.bl false))) tNext { D0 with nx := tIfS (tThere K) (tDrop (tBM K "list" rAppend (tVar 6) (tCons (tOp (rIx K) (tVar 9) (tC (.int 1))) tNil))) tNext D0 } ((σ.set 10 (some v)).set 9 (some x)) H2 := fun d row' past' ot hu hq => by
    refine lam_oc h2 ot (fun H3 h3 Ech Nd hw => ?_) hu fun B3 H3 s3 h3 => hq B3 H3 s3 h3
    refine ⟨.ref o.b, hs2.s5, v, t10, ?_⟩
    show spDone K mg U Z.C [.ref o.b, v] H3 Nd Ech
    exact ⟨o.b, v, e, EX.nt B2, o.dx, o.l, o.cap, row, past, rfl, h3.sub, h3.bm, dp_nt _ _ (dp_mono g2.bb _ _ dv), hn, by omega, hw⟩
  have no : ∀ (out : Out), isThere out = false → DL.Dp K B2 x out.toD → OcT U row past (dueO U o.cap row past e) out.toD row past → tIfS (tTest (tOp (rNeD K) (tLam Ts (TTg K mg U) fun E => tCall (spDone K mg U Z.C) [] E (tCons (tVar 5) (tCons (tVar 10) tNil))) (tIf (tThere K) tTold2 (tVar 9)))) (tRet (tC (.bl false))) tNext { D0 with nx := tIfS (tThere K) (tDrop (tBM K "list" rAppend (tVar 6) (tCons (tOp (rIx K) (tVar 9) (tC (.int 1))) tNil))) tNext D0 } ((σ.set 10 (some v)).set 9 (some x)) H2 := fun out it dx ot => by
    refine main out.toD row past ot (fun B3 H3 Q' s3 sB q' => ?_) fun B3 H3 s3 h3 => ?_
    · unfold tIf
      refine there_read t9 sB (dp_mono s3 _ _ (dp_nt _ _ dx)) fun B4 H4 g4 => ?_
      rw [it, if_neg Bool.false_ne_true]
      exact ⟨x, t9, q' x B4 H4 g4 (dp_mono g4.bb _ _ (dp_mono s3 _ _ (dp_nt _ _ dx)))⟩
    · refine there_read t9 h3.sub (dp_mono s3 _ _ (dp_nt _ _ dx)) fun B4 H4 g4 => ?_
      rw [it, if_neg Bool.false_ne_true]
      exact q _ B4 H4 c1 row past (.inl ⟨rfl, rfl⟩) hs2 (h3.grow g4)
  cases hout : due o.cap row e with
  | there r =>
    rw [hout] at dx
    have eo : dueO U o.cap row past e = .ok r (past ++ [row]) := by unfold dueO; rw [hout]
    refine main _ r (past ++ [row]) (by rw [eo]; exact .ok _ _) (fun B3 H3 Q' s3 sB q' => ?_) fun B3 H3 s3 h3 => ?_
    · unfold tIf
      refine there_read t9 sB (dp_mono s3 _ _ (dp_nt _ _ dx)) fun B4 H4 g4 => ?_
      rw [show isThere (Out.there r) = true from rfl, if_pos rfl]
      exact told2_read g4.bh fun w B5 H5 g5 dw => q' w B5 H5 (g4.trans g5) dw
    · refine there_read t9 h3.sub (dp_mono s3 _ _ (dp_nt _ _ dx)) fun B4 H4 g4 => ?_
      rw [show isThere (Out.there r) = true from rfl, if_pos rfl]
      have h4 := h3.grow g4
      have d4 := dp_mono g4.bb _ _ (dp_mono s3 _ _ (dp_nt _ _ dx))
      obtain ⟨ws, w1, w2⟩ := h4.way
      refine ⟨.ref wy, hs2.s6, .inl ⟨rfl, _, SqL.of w1⟩, ?_⟩
      refine ix_read (i := 9) t9 h4.sub d4 (z := rowD r) (by show ixD (.tuple [.str "there", rowD r]) (.int 1) = _; rw [ev_ixT]; exact atI_nat (j := 1) rfl) fun y B5 H5 g5 dy => ?_
      have h5 := h4.grow g5
      have w5 := g5.hh _ _ w1
      have lw : ws.length < sizeLine := by rw [dpAll_len w2, List.length_map, List.length_append, sizeLine_eq]; show past.length + 1 < _; omega
      refine ⟨wy, ws, y, rfl, rfl, w5, lw, ?_⟩
      exact q _ B5 _ c1 r (past ++ [row]) (.inr ⟨rfl, due_len hout⟩) hs2 (h5.push w5 (dpAll_mono g5.bb _ _ w2) dy)
  | no =>
    rw [hout] at dx
    exact no .no rfl dx (by unfold dueO; rw [hout]; exact .place)
  | full p =>
    rw [hout] at dx
    exact no (.full p) rfl dx (by unfold dueO; rw [hout]; exact .full p)
  | empty p =>
    rw [hout] at dx
    exact no (.empty p) rfl dx (by unfold dueO; rw [hout]; exact .empty p)
theorem stands_ok {C : Addr} {D0 : Ends} (hs : Sv o wy σ) (h : Hv K C Ts B0 o wy B H c row past (past ++ [row])) (n1 : 1 ≤ row.length) (n2 : row.length ≤ 1000) (q : ∀ B' H' c', Hv K C Ts B0 o wy B' H' c' row past (past ++ [row]) → D0.nx σ H') : tStands K C Ts D0 σ H := by
  refine ⟨.ref o.p, hs.s2, .ref o.b, hs.s5, hv_last hs h fun v dv => hv_of hs h fun x capx rowx B1 H1 c1 s1 h1 hb hx => ?_⟩
  unfold tNil
  dsimp only [List.cons_append, List.nil_append]
  exact hv_stands h1 hb hx (dp_mono s1 _ _ dv) n1 n2 fun H2 c2 h2 => ⟨true, rfl, q _ H2 c2 h2⟩
end
end X
/-! X41zc: the turns; the end of a script. -/
namespace X
open PySem PySem.Spec PyProof.Rows L2 DL DM EX LamX
/-- what the rows keep -/
structure Wv (o : Ob) (row : List Int) (past : List (List Int)) : Prop where
  head : (past ++ [row]).head? = some o.row0
  len : ∀ r ∈ past ++ [row], r.length = o.row0.length
structure Og (o : Ob) : Prop where
  c1 : 1 ≤ o.cap
  c2 : o.cap ≤ 9
  l1 : 1 ≤ o.row0.length
  l2 : o.row0.length ≤ 24
  at_ : ∀ x ∈ o.row0, 0 ≤ x ∧ x ≤ o.cap
theorem Wv.row {o : Ob} {row : List Int} {past : List (List Int)} (W : Wv o row past) : row.length = o.row0.length := W.len _ (List.mem_append_right _ (List.mem_singleton.mpr rfl))
theorem Wv.back {o : Ob} {row z : List Int} {L : List (List Int)} (W : Wv o row (L ++ [z])) : Wv o z L := by
  refine ⟨?_, fun r hr => W.len r (List.mem_append_left _ hr)⟩
  have h := W.head
  rw [List.head?_append] at h
  rw [List.head?_append] at h ⊢
  cases hL : L.head? with
  | some y => rw [hL] at h; exact h
  | none => rw [hL] at h; exact h
theorem Wv.next {o : Ob} {row r : List Int} {past : List (List Int)} (W : Wv o row past) (hr : r.length = row.length) : Wv o r (past ++ [row]) := by
  refine ⟨?_, fun x hx => ?_⟩
  · rw [List.head?_append, W.head]; rfl
  · rcases List.mem_append.mp hx with h | h
    · exact W.len x h
    · rw [List.mem_singleton.mp h, hr]; exact W.row
theorem notFirst_self {K : PySem.W.Frag} {C : Addr} : PySem.W.notFirst K C (.ref C) = true := by
  unfold PySem.W.notFirst
  rw [beq_self_eq_true, Bool.true_or]
theorem notFirst_tup {K : PySem.W.Frag} {C : Addr} (h : PySem.W.subIn K (.type "tuple") (.ref C) = some false) : PySem.W.notFirst K C (.type "tuple") = true := by
  unfold PySem.W.notFirst
  rw [h]
  exact Bool.or_true _
section
variable {K : PySem.W.Frag} {mg : Str → Option Value} {Ts : List (Addr × Str)} {B0 B H B' H' : Hp} {o : Ob} {wy : Addr} {c c' : Dr} {row row' : List Int} {past past' ways : List (List Int)} {σ : L2.St} {Q : VK}
theorem turn_ok (Z : TB K mg) (U : TC K mg) {D0 : Ends} (g : Og o) (hs : Sv o wy σ) (h : Hv K Z.C Ts B0 o wy B H c row past (past ++ [row])) (W : Wv o row past) (hk : past.length ≤ 800)
    (q : ∀ wy' σ' B' H' c' row' past', Wv o row' past' → past'.length ≤ past.length + 1 → Sv o wy' σ' → Hv K Z.C Ts B0 o wy' B' H' c' row' past' (past' ++ [row']) → D0.nx σ' H') : tTurn K mg U Z.C Ts D0 σ H := by
  have hn : row.length ≤ 1000 := by rw [W.row]; have := g.l2; omega
  have fin : ∀ wy' σ' B' H' c' row' past', Wv o row' past' → past'.length ≤ past.length + 1 → Sv o wy' σ' → Hv K Z.C Ts B0 o wy' B' H' c' row' past' (past' ++ [row']) → tStands K Z.C Ts D0 σ' H' := fun wy' σ' B' H' c' row' past' W' l' hs' h' => by
    have := W'.row
    have := g.l1
    have := g.l2
    exact stands_ok hs' h' (by omega) (by omega) fun B2 H2 c2 h2 => q wy' σ' B2 H2 c2 row' past' W' l' hs' h2
  unfold tTurn tSeq
  refine hv_draw hs.s2 h (by decide) (by decide) fun r B1 H1 c1 r0 r1 s1 h1 => ?_
  unfold tC
  refine d_eq B1 H1 (.int r) (.int 0) (.int r) (.int 0) _ _ h1.sub (.int r) (.int 0) eqD_int fun y B2 H2 g2 dy => ⟨_, dp_bool dy, ?_⟩
  have h2 := h1.grow g2
  cases decide (r = 0) with
  | true =>
    dsimp only
    rw [if_pos rfl]
    refine turnB_ok Z U hs h2 hn (by omega) fun wy' σ' B3 H3 row' past' hp hs3 h3 => ?_
    rcases hp with ⟨e1, e2, e3⟩ | e1
    · subst e1; subst e2; subst e3
      exact fin wy' σ' B3 H3 c1 _ _ W (by omega) hs3 h3
    · subst e1
      exact fin wy' σ' B3 H3 c1 _ _ W.back (by rw [List.length_append]; omega) hs3 h3
  | false =>
    dsimp only
    rw [if_neg Bool.false_ne_true]
    refine turnD_ok Z U hs h2 hn (by omega) g.l1 g.l2 fun σ' B3 H3 c3 row' past' hp hs3 h3 => ?_
    rcases hp with ⟨e1, e2⟩ | ⟨e1, e2⟩
    · subst e1; subst e2
      exact fin wy σ' B3 H3 c3 _ _ W (by omega) hs3 h3
    · subst e1
      exact fin wy σ' B3 H3 c3 _ _ (W.next e2) (by rw [List.length_append]; exact Nat.le_refl _) hs3 h3
theorem turns_ok (Z : TB K mg) (U : TC K mg) {D0 : Ends} (g : Og o) (hs : Sv o wy σ) (h : Hv K Z.C Ts B0 o wy B H c row past (past ++ [row])) (W : Wv o row past) (hk : past.length = 0)
    (q : ∀ wy' σ' B' H' c' row' past', Wv o row' past' → past'.length ≤ 30 → Sv o wy' σ' → Hv K Z.C Ts B0 o wy' B' H' c' row' past' (past' ++ [row']) → D0.nx σ' H') : tFor (iRng1 (tCons (tC (.int 30)) tNil)) (gName 8) (tTurn K mg U Z.C Ts) D0 σ H := by
  refine ⟨30, rfl, by omega, by omega, ?_⟩
  refine for_range (lo := 0) (n := 30) (fun i σ' H' => ∃ wy' B' c' row' past', Wv o row' past' ∧ past'.length ≤ i ∧ Sv o wy' σ' ∧ Hv K Z.C Ts B0 o wy' B' H' c' row' past' (past' ++ [row'])) ⟨wy, B, c, row, past, W, by omega, hs, h⟩ (fun i σ' H' hi hP => ?_) fun σ' H' hP => ?_
  · obtain ⟨wy', B', c', row', past', W', l', hs', h'⟩ := hP
    refine turn_ok Z U g (hs'.set (i := 8) (by decide) _) h' W' (by omega) fun wy2 σ2 B2 H2 c2 row2 past2 W2 l2 hs2 h2 => ?_
    exact ⟨wy2, B2, c2, row2, past2, W2, by omega, hs2, h2⟩
  · obtain ⟨wy', B', c', row', past', W', l', hs', h'⟩ := hP
    exact q wy' σ' B' H' c' row' past' W' l' hs' h'
/-! ### back to the start -/
def tBacks (K : PySem.W.Frag) (mg : Str → Option Value) (U : TC K mg) (C : Addr) : TS :=
  tFor (iRng1 (tCons (tOp (rI0 fun i j => .int (i - j)) (tCB (rLenS K) (tCons (tVar 6) tNil)) (tC (.int 1))) tNil)) (gName 8) (tDrop (tMeth C (Str.ofString "back") (spM K C 0 (backR U.C_NothingLeft)) [] C8.E0 (tVar 5) tNil))
theorem backs_ok (Z : TB K mg) (U : TC K mg) {D0 : Ends} {f : Addr} (g : Og o) (hs : Sv o wy σ) (h : Hv K Z.C Ts B0 o wy B H c row past (past ++ [row])) (W : Wv o row past) (hk : past.length ≤ 30) (s11 : σ[11]? = some (some (.ref f))) (hf : BenAt K Z.C B f o.cap o.row0)
    (q : ∀ σ' B' H', Sv o wy σ' → Hv K Z.C Ts B0 o wy B' H' c o.row0 [] (past ++ [row]) → σ'[11]? = some (some (.ref f)) → BenAt K Z.C B' f o.cap o.row0 → D0.nx σ' H') : tBacks K mg U Z.C D0 σ H := by
  unfold tBacks
  refine hv_len hs h ⟨_, _, rfl, rfl, ?_⟩
  have len1 : (((past ++ [row]).length : Nat) : Int) = past.length + 1 := by rw [List.length_append]; rfl
  refine ⟨(past.length : Int), by show [V.int _] = _; rw [len1]; congr 2; omega, by omega, by omega, ?_⟩
  refine for_range (lo := 0) (n := (past.length : Int).toNat) (fun i σ' H' => ∃ B' row' past', Wv o row' past' ∧ past'.length + i = past.length ∧ Sv o wy σ' ∧ Hv K Z.C Ts B0 o wy B' H' c row' past' (past ++ [row]) ∧ σ'[11]? = some (some (.ref f)) ∧ BenAt K Z.C B' f o.cap o.row0) ⟨B, row, past, W, by omega, hs, h, s11, hf⟩ (fun i σ' H' hi hP => ?_) fun σ' H' hP => ?_
  · obtain ⟨B', row', past', W', l', hs', h', s', hf'⟩ := hP
    rcases List.eq_nil_or_concat past' with e0 | ⟨L, z, e0⟩
    · rw [e0] at l'
      have l0 : 0 + i = past.length := l'
      omega
    · rw [List.concat_eq_append] at e0
      subst e0
      have hs2 := hs'.set (i := 8) (by decide) (some (V.int (0 + (i : Int))))
      have hn : row'.length ≤ 1000 := by rw [W'.row]; have := g.l2; omega
      have l2 : (L ++ [z]).length = L.length + 1 := by rw [List.length_append]; rfl
      refine meth_do (F := backR U.C_NothingLeft) (ds := []) (by decide +kernel) hs2.s5 h'.bm (fun Q' q' => q' [] _ H' (Grow.refl h'.sub) rfl .nil) hn (by omega) ?_
      have e : backR U.C_NothingLeft o.cap row' (L ++ [z]) [] = .ok z L := by
        show (match (L ++ [z]).getLast? with | some r => Oc.ok r (L ++ [z]).dropLast | none => .ex U.C_NothingLeft) = _
        rw [List.getLast?_concat, List.dropLast_concat]
      rw [e]
      intro B2 H2 ch m
      exact ⟨B2, z, L, W'.back, by omega, hs2, h'.ch ch m, by rw [List.getElem?_set_ne (by decide)]; exact s', hf'.mono ch.bb⟩
  · obtain ⟨B', row', past', W', l', hs', h', s', hf'⟩ := hP
    have e0 : past' = [] := List.eq_nil_of_length_eq_zero (by omega)
    subst e0
    have er : row' = o.row0 := Option.some.inj (W'.head : some row' = some o.row0)
    subst er
    exact q σ' B' H' hs' h' s' hf'
/-! ### == of benches -/
theorem own_read {neg : Bool} {f b : Addr} {cap cap' : Int} {E : XK} (Z : TB K mg) (sB : Same B H) (hb : BenAt K Z.C B b cap row) (hf : BenAt K Z.C B f cap' row') (q : ∀ H', Same H H' → Q (.bl (if neg = true then !(decide (cap = cap') && decide (row = row')) else decide (cap = cap') && decide (row = row'))) H') : rOwn K Z.C (spEq K Z.C) E neg (.ref b) (.ref f) H Q := by
  obtain ⟨dx, vN, l, k1, k2⟩ := id hb
  obtain ⟨dx', vN', l', j1, j2⟩ := id hf
  exact ⟨b, dx, _, .ref Z.C, rfl, sB _ _ k1, .base (.ins (sB _ _ j1) Z.cl Z.ha Z.hn Z.ht Z.hm), notFirst_self, b, .ref f, B, cap, row, rfl, sB, hb, .inl ⟨f, cap', row', rfl, hf, fun H' s => ⟨_, rfl, q H' s⟩⟩⟩
theorem own_tup {neg : Bool} {b : Addr} {cap : Int} {u : V} {E : XK} (Z : TB K mg) (sB : Same B H) (hb : BenAt K Z.C B b cap row) (du : DL.Dp K B u (rowD row')) (q : ∀ H', Same H H' → Q (.bl neg) H') : rOwn K Z.C (spEq K Z.C) E neg (.ref b) u H Q := by
  obtain ⟨dx, vN, l, k1, k2⟩ := id hb
  obtain ⟨a, xs, rfl, ha, da⟩ := dp_tuple du
  refine ⟨b, dx, _, .type "tuple", rfl, sB _ _ k1, .base (.tup (sB _ _ ha)), notFirst_tup Z.sT, b, .ref a, B, cap, row, rfl, sB, hb, .inr ⟨a, xs, rfl, sB _ _ ha, fun H' s => ⟨_, rfl, ?_⟩⟩⟩
  cases neg with
  | true => exact q H' s
  | false => exact q H' s
end
end X
/-! X41zd: benches made. -/
namespace X
open PySem PySem.Spec PyProof.Rows L2 DL DM EX LamX
theorem neD_bool {a b : Bool} : neD (.bool a) (.bool b) = some (.bool (!(a == b))) := by
  have hs : ∀ a : Bool, SeqAt.shaped (.bool a) = true := fun a => by cases a <;> rfl
  unfold neD
  rw [if_pos ⟨hs a, hs b⟩]
  simp [PyData.eqv]
theorem eqD_bool {a b : Bool} : eqD (.bool a) (.bool b) = some (.bool (a == b)) := by
  have hs : ∀ a : Bool, SeqAt.shaped (.bool a) = true := fun a => by cases a <;> rfl
  unfold eqD
  rw [if_pos ⟨hs a, hs b⟩]
  simp [PyData.eqv]
theorem rowB_ok {cap : Int} {row : List Int} (l1 : 1 ≤ row.length) (l2 : row.length ≤ 24) (h : ∀ x ∈ row, 0 ≤ x ∧ x ≤ cap) : rowB cap (rowD row) = true := by
  show (decide (1 ≤ ((iL row).length : Int)) && decide (((iL row).length : Int) ≤ 24) && (iL row).all (btw 0 cap)) = true
  rw [iL_len, decide_eq_true (show (1 : Int) ≤ row.length by omega), decide_eq_true (show (row.length : Int) ≤ 24 by omega), Bool.true_and, Bool.true_and]
  refine List.all_eq_true.mpr fun d hd => ?_
  obtain ⟨i, hi, rfl⟩ := List.mem_map.mp hd
  obtain ⟨h1, h2⟩ := h i hi
  show (decide (0 ≤ i) && decide (i ≤ cap)) = true
  rw [decide_eq_true h1, decide_eq_true h2]; rfl
section
variable {K : PySem.W.Frag} {mg : Str → Option Value} {Ts : List (Addr × Str)} {B0 B H B' H' : Hp} {o : Ob} {wy : Addr} {c c' : Dr} {row row' : List Int} {past past' ways : List (List Int)} {σ : L2.St} {Q : VK} {C SC SR x dx : Addr} {cap : Int} {u v : V} {E : XK}
theorem spI_new (sB : Same B H) (nx : H x = none) (nd : H dx = none) (ne : dx ≠ x) (du : DL.Dp K B u (.int cap)) (dv : DL.Dp K B v (rowD row)) (c1 : 1 ≤ cap) (c2 : cap ≤ 9) (l1 : 1 ≤ row.length) (l2 : row.length ≤ 24) (hr : ∀ x ∈ row, 0 ≤ x ∧ x ≤ cap)
    (q : ∀ B' H' l, Grow B H B' H' → H l = none → BM K C B' H' x dx l cap row [] → Q (.ref x) H') : spI K C SC SR [.ref x, u, v] (upd (upd H dx (.own x)) x (.ins C dx [])) (fun v H3 => v = .non ∧ Q (.ref x) H3) E := by
  have s1 : Same H (upd (upd H dx (.own x)) x (.ins C dx [])) := (same_new nd).trans (same_new (by rw [upd_ne (Ne.symm ne)]; exact nx))
  refine ⟨x, dx, u, v, .int cap, rowD row, B, rfl, sB.trans s1, sB.free nx, upd_same, du, dv, .inr (.inr ⟨cap, row, rfl, btw_cap c1 c2, rfl, by omega, rowB_ok l1 l2 hr, fun B' H' l bb bh keep fresh nl m => ⟨rfl, ?_⟩⟩)⟩
  refine q B' H' l ⟨bb, bh, fun a w e => keep a w (fun z => by rw [z, nx] at e; cases e) (s1 a w e), fun a w e n => s1.free (fresh a w e n)⟩ (s1.free nl) m
theorem bm_in {l : Addr} (g : Grow B H B' H') (nx : H x = none) (m : BM K C B' H' x dx l cap row []) : ∃ B2, Grow B H B2 H' ∧ BenAt K C B2 x cap row := by
  obtain ⟨vN, vs, b1, b2, b3, b4⟩ := m.ob
  have sm : Same B' (upd B' x (.ins C dx (bfl cap vN l))) := same_upd m.nb
  refine ⟨_, ⟨g.bb.trans sm, same_put g.bh b1, g.hh, fun a w e n => ?_⟩, dx, vN, l, upd_same, dp_mono sm _ _ b2⟩
  by_cases z : a = x
  · rw [z]; exact nx
  · rw [upd_ne z] at e; exact g.fresh a w e n
/-- a bench made: it changes yet -/
theorem make_bm {t : TA} (c1 : 1 ≤ cap) (c2 : cap ≤ 9) (l1 : 1 ≤ row.length) (l2 : row.length ≤ 24) (hr : ∀ x ∈ row, 0 ≤ x ∧ x ≤ cap) (ht : ∀ Q' : List V → Hp → Prop, (∀ u v B1 H1, Grow B H B1 H1 → DL.Dp K B1 u (.int cap) → DL.Dp K B1 v (rowD row) → Q' [u, v] H1) → t σ H Q')
    (q : ∀ x dx l B' H', Grow B H B' H' → H x = none → H l = none → BM K C B' H' x dx l cap row [] → Q (.ref x) H') : tMake C (spI K C SC SR) [] E t σ H Q := by
  refine ht _ fun u v B1 H1 g1 du dv x dx nx nd ne => ?_
  show spI K C SC SR [.ref x, u, v] _ _ E
  exact spI_new g1.bh nx nd ne du dv c1 c2 l1 l2 hr fun B' H' l g nl m => q x dx l B' H' (g1.trans g) (g1.hh.free nx) (g1.hh.free nl) m
/-- a bench made: it stands -/
theorem make_ben {t : TA} (c1 : 1 ≤ cap) (c2 : cap ≤ 9) (l1 : 1 ≤ row.length) (l2 : row.length ≤ 24) (hr : ∀ x ∈ row, 0 ≤ x ∧ x ≤ cap) (ht : ∀ Q' : List V → Hp → Prop, (∀ u v B1 H1, Grow B H B1 H1 → DL.Dp K B1 u (.int cap) → DL.Dp K B1 v (rowD row) → Q' [u, v] H1) → t σ H Q')
    (q : ∀ x B' H', Grow B H B' H' → BenAt K C B' x cap row → Q (.ref x) H') : tMake C (spI K C SC SR) [] E t σ H Q := by
  refine make_bm (B := B) c1 c2 l1 l2 hr ht fun x dx l B' H' g nx nl m => ?_
  obtain ⟨B2, g2, hb⟩ := bm_in g nx m
  exact q x B2 H' g2 hb
/-! ### the end -/
abbrev rOw (K : PySem.W.Frag) (C : Addr) (neg : Bool) : R2 := rOwn K C (spEq K C) C8.E0 neg
def tFresh (K : PySem.W.Frag) (C SC SR : Addr) : TS := tAsg (tMakeK C 0 [Str.ofString "row", Str.ofString "cap"].length (spI K C SC SR) (fun vs zs => vs ++ [zs.getD 1 .non, zs.getD 0 .non]) C8.E0 tNil (tCons (tVar 4) (tCons (tVar 3) tNil))) (gName 11)
def tSame (K : PySem.W.Frag) : TS := tAsg (tOp (rEqD K) (tLast K) (tVar 4)) (gName 12)
def tIf1 (K : PySem.W.Frag) (C : Addr) : TS := tIfS (tOr (tTest (tOp (rNeD K) (tOp (rOw K C false) (tVar 5) (tVar 11)) (tVar 12))) (tOr (tTest (tOp (rEqD K) (tOp (rOw K C true) (tVar 5) (tVar 11)) (tVar 12)))
  (tTest (tOp (rOw K C false) (tVar 5) (tMeth C (Str.ofString "row") (spB K C 0 fun _ row _ => Rs.ok (.tuple (iL row))) [] C8.E0 (tVar 5) tNil))))) (tRet (tC (.bl false))) tNext
def tIf2 (K : PySem.W.Frag) (C SC SR : Addr) : TS := tIfS (tAnd (tTest (tOp (rI0 fun i j => .bl (decide (i < j))) (tVar 3) (tC (.int 9)))) (tTest (tOp (rOw K C false) (tVar 11) (tMake C (spI K C SC SR) [] C8.E0 (tCons (tOp (rAddA K) (tVar 3) (tC (.int 1))) (tCons (tVar 4) tNil)))))) (tRet (tC (.bl false))) tNext
def tIf3 (K : PySem.W.Frag) (C : Addr) (Ts : List (Addr × Str)) : TS := tIfS (tOr (tNot (tTest (tOp (rOw K C false) (tVar 5) (tVar 11)))) (tNot (tB (tCall (spSS K C Ts) [] C8.E0 (tCons (tVar 2) (tCons (tVar 5) (tCons (tVar 4) (tCons (tVar 11) tNil)))))))) (tRet (tC (.bl false))) tNext
theorem fresh_ok (Z : TB K mg) (U : TC K mg) {D0 : Ends} (g : Og o) (hs : Sv o wy σ) (h : Hv K Z.C Ts B0 o wy B H c row past ways) (q : ∀ f B' H', Hv K Z.C Ts B0 o wy B' H' c row past ways → BenAt K Z.C B' f o.cap o.row0 → D0.nx (σ.set 11 (some (.ref f))) H') : tFresh K Z.C U.C_NoCap U.C_NoRow D0 σ H := by
  refine ⟨o.vr, hs.s4, .int o.cap, hs.s3, rfl, rfl, fun x dx nx nd ne => ?_⟩
  show spI K Z.C U.C_NoCap U.C_NoRow [.ref x, .int o.cap, o.vr] _ _ C8.E0
  refine spI_new (Q := fun x H1 => gName 11 x σ H1 D0.nx) h.sub nx nd ne (.int _) h.dr g.c1 g.c2 g.l1 g.l2 g.at_ fun B' H' l g' nl m => ?_
  obtain ⟨B2, g2, hb⟩ := bm_in g' nx m
  exact q x B2 H' (h.grow g2) hb
theorem same_ok (Z : TB K mg) {D0 : Ends} (hs : Sv o wy σ) (h : Hv K Z.C Ts B0 o wy B H c row past (past ++ [row])) (q : ∀ B' H', Same B B' → Hv K Z.C Ts B0 o wy B' H' c row past (past ++ [row]) → D0.nx (σ.set 12 (some (.bl (decide (row = o.row0))))) H') : tSame K D0 σ H := by
  refine hv_last hs h fun v dv => ⟨o.vr, hs.s4, ?_⟩
  refine d_eq B H v o.vr (rowD row) (rowD o.row0) _ _ h.sub dv h.dr eqT fun y B2 H2 g2 dy => ?_
  rw [dp_bool dy]
  exact q B2 H2 g2.bb (h.grow g2)
theorem hv_own (Z : TB K mg) {neg : Bool} {f : Addr} (hs : Sv o wy σ) (h : Hv K Z.C Ts B0 o wy B H c row past ways) (s11 : σ[11]? = some (some (.ref f))) (hf : BenAt K Z.C B f o.cap o.row0)
    (q : ∀ H', Hv K Z.C Ts B0 o wy B H' c row past ways → Q (.bl (if neg = true then !(decide (row = o.row0)) else decide (row = o.row0))) H') : tOp (rOw K Z.C neg) (tVar 5) (tVar 11) σ H Q := by
  obtain ⟨u, s1, s2, hb⟩ := h.put
  refine ⟨.ref o.b, hs.s5, .ref f, s11, own_read Z s1 hb (hf.mono s2) fun H' s => ?_⟩
  rw [decide_eq_true (show o.cap = o.cap from rfl), Bool.true_and]
  exact q H' (h.grow (grow_same h.sub s))
theorem if1_ok (Z : TB K mg) {D0 : Ends} {f : Addr} (hs : Sv o wy σ) (h : Hv K Z.C Ts B0 o wy B H c row past ways) (hn : row.length ≤ 1000) (s11 : σ[11]? = some (some (.ref f))) (hf : BenAt K Z.C B f o.cap o.row0) (s12 : σ[12]? = some (some (.bl (decide (row = o.row0)))))
    (q : ∀ B' H', Same B B' → Hv K Z.C Ts B0 o wy B' H' c row past ways → D0.nx σ H') : tIf1 K Z.C D0 σ H := by
  refine hv_own Z hs h s11 hf fun H1 h1 => ⟨_, s12, ?_⟩
  rw [if_neg Bool.false_ne_true]
  refine d_ne B H1 _ _ (.bool (decide (row = o.row0))) (.bool (decide (row = o.row0))) (.bool false) _ h1.sub (.bl _) (.bl _) ?_ fun y B2 H2 g2 dy => ⟨_, dp_bool dy, ?_⟩
  · rw [neD_bool, beq_self_eq_true]; rfl
  have h2 := h1.grow g2
  dsimp only
  rw [if_neg Bool.false_ne_true]
  refine hv_own Z hs h2 s11 (hf.mono g2.bb) fun H3 h3 => ⟨_, s12, ?_⟩
  rw [if_pos rfl]
  refine d_eq B2 H3 _ _ (.bool (!decide (row = o.row0))) (.bool (decide (row = o.row0))) (.bool false) _ h3.sub (.bl _) (.bl _) ?_ fun y B4 H4 g4 dy => ⟨_, dp_bool dy, ?_⟩
  · rw [eqD_bool]; cases decide (row = o.row0) <;> rfl
  have h4 := h3.grow g4
  dsimp only
  rw [if_neg Bool.false_ne_true]
  refine ⟨.ref o.b, hs.s5, ?_⟩
  refine methM_read (F := fun _ row _ => Rs.ok (.tuple (iL row))) (us := []) (ds := []) (by decide +kernel) hs.s5 h4.sub h4.bm (fun Q' z => z) rfl .nil hn ?_
  intro v B5 H5 g5 dv
  have h5 := h4.grow g5
  obtain ⟨u, s1, s2, hb⟩ := h5.put
  refine own_tup Z s1 hb (dp_mono s2 _ _ dv) fun H6 s6 => ⟨_, rfl, ?_⟩
  dsimp only
  rw [if_neg Bool.false_ne_true]
  exact q B5 H6 ((g2.bb.trans g4.bb).trans g5.bb) (h5.grow (grow_same h5.sub s6))
theorem if2_ok (Z : TB K mg) (U : TC K mg) {D0 : Ends} {f : Addr} (g : Og o) (hs : Sv o wy σ) (h : Hv K Z.C Ts B0 o wy B H c row past ways) (s11 : σ[11]? = some (some (.ref f))) (hf : BenAt K Z.C B f o.cap o.row0)
    (q : ∀ B' H', Same B B' → Hv K Z.C Ts B0 o wy B' H' c row past ways → D0.nx σ H') : tIf2 K Z.C U.C_NoCap U.C_NoRow D0 σ H := by
  refine ⟨.int o.cap, hs.s3, o.cap, 9, rfl, rfl, _, rfl, ?_⟩
  by_cases hc : o.cap < 9
  · rw [decide_eq_true hc]
    dsimp only
    rw [if_pos rfl]
    refine ⟨.ref f, s11, ?_⟩
    refine make_ben (B := B) (cap := o.cap + 1) (row := o.row0) (by have := g.c1; omega) (by omega) g.l1 g.l2 (fun x hx => by have := g.at_ x hx; omega) (fun Q' z => ?_) fun x B1 H1 g1 hb => ?_
    · refine ⟨.int o.cap, hs.s3, .inl ⟨o.cap, 1, rfl, rfl, o.vr, hs.s4, z _ _ B H (Grow.refl h.sub) (.int _) h.dr⟩⟩
    · refine own_read Z g1.bh (hf.mono g1.bb) hb fun H2 s2 => ⟨_, rfl, ?_⟩
      rw [if_neg Bool.false_ne_true, decide_eq_false (show ¬ o.cap = o.cap + 1 by omega), Bool.false_and]
      exact q B1 H2 g1.bb ((h.grow g1).grow (grow_same g1.bh s2))
  · rw [decide_eq_false hc]
    dsimp only
    rw [if_neg Bool.false_ne_true, if_neg Bool.false_ne_true]
    exact q B H (Same.refl B) h
theorem if3_ok (Z : TB K mg) {D0 : Ends} {f : Addr} (g : Og o) (hs : Sv o wy σ) (h : Hv K Z.C Ts B0 o wy B H c o.row0 past ways) (s11 : σ[11]? = some (some (.ref f))) (hf : BenAt K Z.C B f o.cap o.row0)
    (q : ∀ B' H' c', Hv K Z.C Ts B0 o wy B' H' c' o.row0 past ways → D0.nx σ H') : tIf3 K Z.C Ts D0 σ H := by
  have hn : o.row0.length ≤ 1000 := by have := g.l2; omega
  refine hv_own Z hs h s11 hf fun H1 h1 => ⟨_, rfl, ?_⟩
  rw [if_neg Bool.false_ne_true, decide_eq_true (show o.row0 = o.row0 from rfl)]
  dsimp only
  refine ⟨.ref o.p, hs.s2, .ref o.b, hs.s5, o.vr, hs.s4, .ref f, s11, ?_⟩
  unfold tNil
  dsimp only [List.cons_append, List.nil_append]
  exact hv_stands h1 hf hn h1.dr g.l1 hn fun H2 c2 h2 => ⟨true, rfl, q _ H2 c2 h2⟩
end
end X
/-! X41ze: the other benches. -/
namespace X
open PySem PySem.Spec PyProof.Rows L2 DL DM EX LamX
abbrev tMk (K : PySem.W.Frag) (C SC SR : Addr) (t u : L2.TE) : L2.TE := tMake C (spI K C SC SR) [] C8.E0 (tCons t (tCons u tNil))
abbrev tRow1 (K : PySem.W.Frag) : L2.TE := tOp (rAddA K) (tSl (rSlX K) (tVar 4) tNoPart (tPart tM1)) (tTup (tCons (tC (.int 9)) tNil))
abbrev tRow3 (K : PySem.W.Frag) : L2.TE := tIf (tTest (tOp (rI0 fun i j => .bl (decide (i < j))) (tCB (rLenS K) (tCons (tVar 4) tNil)) (tC (.int 24)))) (tOp (rAddA K) (tVar 4) (tTup (tCons (tC (.int 0)) tNil))) (tOrT K (tSl (rSlX K) (tVar 4) (tPart (tC (.int 1))) tNoPart) (tTup (tCons (tC (.int 1)) tNil)))
def tOthers (K : PySem.W.Frag) (C SC SR : Addr) : TS := tAsg (tLst (tCons (tMk K C SC SR (tC (.int 9)) (tRow1 K)) (tCons (tMk K C SC SR (tVar 3) (tRev K (tVar 4))) (tCons (tMk K C SC SR (tC (.int 9)) (tRow3 K)) tNil)))) (gName 7)
theorem cut_init {xs : List Int} (h : 1 ≤ xs.length) : cutL (iL xs) none (some (-1)) = iL xs.dropLast := by
  have e : HT.sIx (iL xs).length (iL xs).length (some (-1)) = xs.length - 1 := by
    simp only [HT.sIx]
    rw [if_pos (by decide), iL_len]
    omega
  unfold cutL
  rw [e, HT.sIx_none, List.drop_zero, Nat.sub_zero, List.dropLast_eq_take]
  unfold iL
  rw [List.map_take]
section
variable {K : PySem.W.Frag} {mg : Str → Option Value} {Ts : List (Addr × Str)} {B H B' H' : Hp} {row : List Int} {σ : L2.St} {Q : VK} {vr : V}
theorem tCons_ap {t : L2.TE} {u : TA} {R : List V → Hp → Prop} (h : t σ H fun x H1 => u σ H1 fun xs H2 => R (x :: xs) H2) : tCons t u σ H R := h
theorem one_tup {i : Int} (s : Same B H) (q : ∀ v B' H', Grow B H B' H' → DL.Dp K B' v (.tuple (iL [i])) → Q v H') : tTup (tCons (tC (.int i)) tNil) σ H Q := by
  refine ⟨by show 1 ≤ sizeLine; decide, fun p np => ?_⟩
  obtain ⟨g, d⟩ := Grow.newTup (K := K) (vs := [.int i]) (ds := iL [i]) s np (.cons (.int i) .nil)
  exact q _ _ _ g d
theorem few_row {n : Nat} (h : n ≤ 1000) : few n = true := by unfold few; exact decide_eq_true (by omega)
theorem add_rows {a b : List Int} {u v : V} (s : Same B H) (du : DL.Dp K B u (rowD a)) (dv : DL.Dp K B v (rowD b)) (h : a.length + b.length ≤ 1000) (q : ∀ v B' H', Grow B H B' H' → DL.Dp K B' v (rowD (a ++ b)) → Q v H') : rAddA K u v H Q := by
  refine d_add B H u v (rowD a) (rowD b) (rowD (a ++ b)) Q s du dv ?_ q
  show (if few ((iL a).length + (iL b).length) = true then some (PyData.tuple (iL a ++ iL b)) else none) = some (rowD (a ++ b))
  rw [iL_len, iL_len, if_pos (few_row h)]
  show some (PyData.tuple (iL a ++ iL b)) = some (PyData.tuple (iL (a ++ b)))
  rw [iL_app]
theorem row1_read (s4 : σ[4]? = some (some vr)) (s : Same B H) (dr : DL.Dp K B vr (rowD row)) (l1 : 1 ≤ row.length) (l2 : row.length ≤ 24) (q : ∀ v B' H', Grow B H B' H' → DL.Dp K B' v (rowD (row.dropLast ++ [9])) → Q v H') : tRow1 K σ H Q := by
  refine ⟨vr, s4, 1, rfl, -1, rfl, ?_⟩
  refine d_sl B H vr (rowD row) (rowD row.dropLast) none (some (-1)) _ s dr (by show some (PyData.tuple (cutL (iL row) none (some (-1)))) = _; rw [cut_init l1]) fun v1 B1 H1 g1 d1 => ?_
  refine one_tup (K := K) (i := 9) g1.bh fun v2 B2 H2 g2 d2 => ?_
  exact add_rows g2.bh (dp_mono g2.bb _ _ d1) d2 (by rw [List.length_dropLast]; show row.length - 1 + 1 ≤ 1000; omega) fun v3 B3 H3 g3 d3 => q v3 B3 H3 ((g1.trans g2).trans g3) d3
def row3 (row : List Int) : List Int := if row.length < 24 then row ++ [0] else row.drop 1
theorem row3_read (s4 : σ[4]? = some (some vr)) (s : Same B H) (dr : DL.Dp K B vr (rowD row)) (l2 : row.length ≤ 24) (q : ∀ v B' H', Grow B H B' H' → DL.Dp K B' v (rowD (row3 row)) → Q v H') : tRow3 K σ H Q := by
  obtain ⟨a, xs, rfl, ha, dx⟩ := dp_tuple dr
  have lx : (xs.length : Int) = row.length := by rw [dpAll_len dx, iL_len]
  refine ⟨.ref a, s4, a, xs, rfl, .inr (SqT.of (s _ _ ha)), _, _, rfl, rfl, _, rfl, ?_⟩
  rw [lx]
  unfold row3 at q
  by_cases h : row.length < 24
  · rw [if_pos h] at q
    rw [decide_eq_true (show (row.length : Int) < 24 by omega)]
    rw [if_pos rfl]
    refine ⟨.ref a, s4, ?_⟩
    refine one_tup (K := K) (i := 0) s fun v2 B2 H2 g2 d2 => ?_
    exact add_rows g2.bh (dp_mono g2.bb _ _ dr) d2 (by show row.length + 1 ≤ 1000; omega) fun v3 B3 H3 g3 d3 => q v3 B3 H3 (g2.trans g3) d3
  · rw [if_neg h] at q
    rw [decide_eq_false (show ¬ (row.length : Int) < 24 by omega)]
    rw [if_neg Bool.false_ne_true]
    refine ⟨.ref a, s4, 1, rfl, ?_⟩
    have ec : cutL (iL row) (some 1) none = iL (row.drop 1) := by
      rw [show (some (1 : Int)) = some ((1 : Nat) : Int) from rfl, cut_from (by rw [iL_len]; omega)]
      unfold iL
      rw [List.map_drop]
    refine d_sl B H (.ref a) (rowD row) (rowD (row.drop 1)) (some 1) none _ s dr (by show some (PyData.tuple (cutL (iL row) (some 1) none)) = _; rw [ec]) fun v1 B1 H1 g1 d1 => ?_
    refine ⟨true, truD_ok g1.bh d1 ?_, ?_⟩
    · show some (!(iL (row.drop 1)).isEmpty) = some true
      have hl : (iL (row.drop 1)).length ≠ 0 := by rw [iL_len, List.length_drop]; omega
      cases hz : iL (row.drop 1) with
      | nil => rw [hz] at hl; exact absurd rfl hl
      | cons z zs => rfl
    · rw [if_pos rfl]
      exact q v1 B1 H1 g1 d1
theorem rev_read (s4 : σ[4]? = some (some vr)) (s : Same B H) (dr : DL.Dp K B vr (rowD row)) (l2 : row.length ≤ 24) (q : ∀ v B' H', Grow B H B' H' → DL.Dp K B' v (rowD row.reverse) → Q v H') : tRev K (tVar 4) σ H Q := by
  obtain ⟨a, xs, rfl, ha, dx⟩ := dp_tuple dr
  refine ⟨.ref a, s4, a, xs, rfl, SqT.of (s _ _ ha), (by rw [dpAll_len dx, iL_len, sizeLine_eq]; omega), fun p np => ?_⟩
  obtain ⟨g, dp⟩ := Grow.newTup (K := K) (vs := xs.reverse) (ds := (iL row).reverse) s np (dpAll_rev dx)
  rw [iL_rev] at dp
  exact q _ _ _ g dp
theorem others_ok {C SC SR : Addr} {o : Ob} {D0 : Ends} (g : Og o) (s3 : σ[3]? = some (some (.int o.cap))) (s4 : σ[4]? = some (some o.vr)) (s : Same B H) (dr : DL.Dp K B o.vr (rowD o.row0)) (q : ∀ ot B' H', Grow B H B' H' → Oth K C B' ot → D0.nx (σ.set 7 (some (.ref ot))) H') : tOthers K C SC SR D0 σ H := by
  have l1 := g.l1
  have l2 := g.l2
  have c1 := g.c1
  have c2 := g.c2
  unfold tOthers tAsg tLst
  refine tCons_ap ?_
  refine make_ben (B := B) (t := tCons (tC (.int 9)) (tCons (tRow1 K) tNil)) (cap := 9) (row := o.row0.dropLast ++ [9]) (by decide) (by decide) (by rw [List.length_append]; show 1 ≤ _ + 1; omega) (by rw [List.length_append, List.length_dropLast]; show _ - 1 + 1 ≤ 24; omega) (fun x hx => ?_) (fun Q' z => row1_read s4 s dr l1 l2 fun v B1 H1 g1 d1 => z _ _ B1 H1 g1 (.int _) d1) fun x1 B1 H1 g1 hb1 => ?_
  · rcases List.mem_append.mp hx with h | h
    · have := g.at_ x ((List.dropLast_sublist _).subset h); omega
    · rw [List.mem_singleton.mp h]; omega
  refine tCons_ap ?_
  refine make_ben (B := B1) (t := tCons (tVar 3) (tCons (tRev K (tVar 4)) tNil)) (cap := o.cap) (row := o.row0.reverse) c1 c2 (by rw [List.length_reverse]; exact l1) (by rw [List.length_reverse]; exact l2) (fun x hx => g.at_ x (List.mem_reverse.mp hx)) (fun Q' z => ⟨_, s3, rev_read s4 g1.bh (dp_mono g1.bb _ _ dr) l2 fun v B2 H2 g2 d2 => z _ _ B2 H2 g2 (.int _) d2⟩) fun x2 B2 H2 g2 hb2 => ?_
  have g12 := g1.trans g2
  have l3 : 1 ≤ (row3 o.row0).length ∧ (row3 o.row0).length ≤ 24 := by
    unfold row3
    split
    · rw [List.length_append]; show 1 ≤ _ + 1 ∧ _ + 1 ≤ 24; omega
    · rw [List.length_drop]; omega
  refine tCons_ap ?_
  refine make_ben (B := B2) (t := tCons (tC (.int 9)) (tCons (tRow3 K) tNil)) (cap := 9) (row := row3 o.row0) (by decide) (by decide) l3.1 l3.2 (fun x hx => ?_) (fun Q' z => row3_read s4 g12.bh (dp_mono g12.bb _ _ dr) l2 fun v B3 H3 g3 d3 => z _ _ B3 H3 g3 (.int _) d3) fun x3 B3 H3 g3 hb3 => ?_
  · unfold row3 at hx
    split at hx
    · rcases List.mem_append.mp hx with h | h
      · have := g.at_ x h; omega
      · rw [List.mem_singleton.mp h]; omega
    · have := g.at_ x (List.mem_of_mem_drop hx); omega
  refine ⟨by show 3 ≤ sizeLine; decide, fun p np => ?_⟩
  have g13 := g12.trans g3
  have g4 := Grow.new (o := .lst [.ref x1, .ref x2, .ref x3]) g13.bh np
  refine q p _ _ (g13.trans g4) ⟨_, upd_same, rfl, fun v hv => ?_⟩
  simp only [List.mem_cons, List.not_mem_nil, or_false] at hv
  rcases hv with rfl | rfl | rfl
  · exact ⟨x1, _, _, rfl, ((hb1.mono g2.bb).mono g3.bb).mono g4.bb, by rw [List.length_append, List.length_dropLast]; show _ - 1 + 1 ≤ 1000; omega⟩
  · exact ⟨x2, _, _, rfl, (hb2.mono g3.bb).mono g4.bb, by rw [List.length_reverse]; omega⟩
  · exact ⟨x3, _, _, rfl, hb3.mono g4.bb, by have := l3.2; omega⟩
end
end X
/-! X41zf: a script's turn, whole. -/
namespace X
open PySem PySem.Spec PyProof.Rows L2 DL DM EX LamX
abbrev tDraw (K : PySem.W.Frag) (m : Int) : L2.TE := tCall (spD K F_l_draw) [] C8.E0 (tCons (tVar 2) (tCons (tC (.int m)) tNil))
def tCap (K : PySem.W.Frag) : TS := tAsg (tOp (rAddA K) (tC (.int 1)) (tDraw K 9)) (gName 3)
def tRowD (K : PySem.W.Frag) : TS := tAsg (tCall (spD K F_l_row) [] C8.E0 (tCons (tVar 2) (tCons (tOp (rAddA K) (tC (.int 1)) (tDraw K 24)) (tCons (tVar 3) tNil)))) (gName 4)
def tRefused (K : PySem.W.Frag) (Ts : List (Addr × Str)) : TS := tIfS (tNot (tB (tCall (spRS K Ts) [] C8.E0 (tCons (tVar 3) (tCons (tVar 4) tNil))))) (tRet (tC (.bl false))) tNext
def tBench (K : PySem.W.Frag) (C SC SR : Addr) : TS := tAsg (tTup (tCons (tMk K C SC SR (tVar 3) (tVar 4)) (tCons (tLst (tCons (tVar 4) tNil)) tNil))) (gTup K 2 (gCons (gName 5) (gCons (gName 6) gNil)))
def tBody (K : PySem.W.Frag) (mg : Str → Option Value) (U : TC K mg) (C : Addr) (Ts : List (Addr × Str)) : TS :=
  tSeq (tCap K) (tSeq (tRowD K) (tSeq (tRefused K Ts) (tSeq (tBench K C U.C_NoCap U.C_NoRow) (tSeq (tOthers K C U.C_NoCap U.C_NoRow) (tSeq (tFor (iRng1 (tCons (tC (.int 30)) tNil)) (gName 8) (tTurn K mg U C Ts))
  (tSeq (tFresh K C U.C_NoCap U.C_NoRow) (tSeq (tSame K) (tSeq (tIf1 K C) (tSeq (tIf2 K C U.C_NoCap U.C_NoRow) (tSeq (tBacks K mg U C) (tIf3 K C Ts)))))))))))
/-- what stands ahead of the bench -/
structure Dv (Ts : List (Addr × Str)) (B0 : Hp) (p : Addr) (B H : Hp) (c : Dr) : Prop where
  n0 : NoTbl B0
  b0 : Same B0 B
  sub : Same B H
  np : B p = none
  cell : H p = some (.lst [.int c.1, .int c.2])
  ok : OkDr c
  tabs : Tabs Ts H
section
variable {K : PySem.W.Frag} {mg : Str → Option Value} {Ts : List (Addr × Str)} {B0 B H B' H' : Hp} {p : Addr} {c c' : Dr} {σ : L2.St} {Q : VK}
theorem Dv.fw (h : Dv Ts B0 p B H c) (f : Fw (some p) c' B H B' H') (ok : OkDr c') : Dv Ts B0 p B' H' c' :=
  ⟨h.n0, h.b0.trans f.bb, f.bh, fw_none f h.np h.cell, f.cell _ rfl, ok, fun q hq => TabS.but (h.tabs q hq) h.cell fun x u n e => f.keep x u (fun z => n (Option.some.inj z).symm) e⟩
theorem Dv.ext (h : Dv Ts B0 p B H c) (e : ExtN H H') (T' : Tabs Ts H') : Dv Ts B0 p (EX.nt B) H' c :=
  ⟨h.n0, h.n0.same_nt h.b0, same_nt h.sub e, nt_none h.np, e _ _ h.cell (fun ps z => by cases z), h.ok, T'⟩
theorem Dv.grow (h : Dv Ts B0 p B H c) (g : Grow B H B' H') : Dv Ts B0 p B' H' c :=
  ⟨h.n0, h.b0.trans g.bb, g.bh, g.at_none h.np h.cell, g.hh _ _ h.cell, h.ok, h.tabs.ext g.hh⟩
theorem dv_draw (hs : σ[2]? = some (some (.ref p))) (h : Dv Ts B0 p B H c) {m : Int} (h1 : 1 ≤ m) (h2 : m ≤ 1000) (q : ∀ (r : Int) B' H' c', 0 ≤ r → r < m → Same B B' → Dv Ts B0 p B' H' c' → Q (.int r) H') : tDraw K m σ H Q := by
  obtain ⟨d, c', e, r, rfl, r0, r1, ok⟩ := F_l_draw_eq (m := m) (c := c) h1 (by omega) h.ok
  refine ⟨.ref p, hs, ?_⟩
  refine ⟨p, [.int m], [.int m], B, c, _, c', rfl, h.sub, h.np, h.cell, .cons (.int _) .nil, e, fun v B' H' f dv => ?_⟩
  cases dp_int dv
  exact q r B' H' c' r0 r1 f.bb (h.fw f ok)
theorem sv_start {o : Ob} {wy : Addr} (hl : σ.length = 13) (s0 : σ[0]? = some (some o.sc)) (s2 : σ[2]? = some (some (.ref o.p))) : Sv o wy (((((σ.set 3 (some (.int o.cap))).set 4 (some o.vr)).set 5 (some (.ref o.b))).set 6 (some (.ref wy))).set 7 (some (.ref o.ot))) := by
  refine ⟨by simp [hl], ?_, ?_, ?_, ?_, ?_, ?_, ?_⟩
  · repeat rw [List.getElem?_set_ne (by decide)]
    exact s0
  · repeat rw [List.getElem?_set_ne (by decide)]
    exact s2
  all_goals simp [List.getElem?_set, hl]
theorem body_ok (Z : TB K mg) (U : TC K mg) {sc : V} {D0 : Ends} (hl : σ.length = 13) (s0 : σ[0]? = some (some sc)) (s2 : σ[2]? = some (some (.ref p))) (h : Dv Ts B0 p B H c)
    (q : ∀ σ' B' H', σ'.length = 13 → σ'[0]? = some (some sc) → Same B0 B' → Same B' H' → Tabs Ts H' → D0.nx σ' H') : tBody K mg U Z.C Ts D0 σ H := by
  unfold tBody tSeq tCap tAsg
  show tDraw K 9 σ H _
  refine dv_draw s2 h (by decide) (by decide) fun r B1 H1 c1 r0 r1 _ h1 => .inl ⟨1, r, rfl, rfl, ?_⟩
  obtain ⟨cap, hcap⟩ : ∃ n : Nat, 1 + r = n := ⟨(1 + r).toNat, by omega⟩
  dsimp only
  rw [hcap]
  have hc1 : 1 ≤ cap := by omega
  have hc2 : cap ≤ 9 := by omega
  have t2 : (σ.set 3 (some (V.int cap)))[2]? = some (some (.ref p)) := by rw [List.getElem?_set_ne (by decide)]; exact s2
  have t3 : (σ.set 3 (some (V.int cap)))[3]? = some (some (.int cap)) := List.getElem?_set_self (by rw [hl]; decide)
  unfold gName
  dsimp only
  unfold tRowD tAsg
  refine ⟨.ref p, t2, ?_⟩
  show tDraw K 24 _ H1 _
  refine dv_draw t2 h1 (by decide) (by decide) fun r' B2 H2 c2 r0' r1' _ h2 => .inl ⟨1, r', rfl, rfl, ?_⟩
  obtain ⟨P, hP⟩ : ∃ n : Nat, 1 + r' = n := ⟨(1 + r').toNat, by omega⟩
  dsimp only
  rw [hP]
  obtain ⟨d, c3, ed, ⟨row0, rfl, hlen, hat⟩, ok3⟩ := F_l_row_eq (P := P) (cap := cap) (c := c2) (by omega) hc1 (by omega) h2.ok
  refine ⟨.int cap, t3, p, [.int P, .int cap], [.int P, .int cap], B2, c2, _, c3, rfl, h2.sub, h2.np, h2.cell, .cons (.int _) (.cons (.int _) .nil), ed, fun vr B3 H3 f dv => ?_⟩
  have h3 := h2.fw f ok3
  have u3 : ((σ.set 3 (some (V.int cap))).set 4 (some vr))[3]? = some (some (.int cap)) := by rw [List.getElem?_set_ne (by decide)]; exact t3
  have u4 : ((σ.set 3 (some (V.int cap))).set 4 (some vr))[4]? = some (some vr) := List.getElem?_set_self (by rw [List.length_set, hl]; decide)
  unfold gName
  dsimp only
  unfold tRefused
  refine ⟨.int cap, u3, vr, u4, .int cap, vr, B3, cap, row0, rfl, h3.sub, .int _, dv, by omega, by omega, by omega, h3.tabs, fun H4 e4 T4 => ⟨true, rfl, ?_⟩⟩
  have h4 := h3.ext e4 T4
  have dv4 := dp_nt _ _ dv
  show tBench K Z.C U.C_NoCap U.C_NoRow _ _ H4
  unfold tBench tAsg tTup
  refine tCons_ap ?_
  refine make_bm (B := EX.nt B3) (t := tCons (tVar 3) (tCons (tVar 4) tNil)) (cap := (cap : Int)) (row := row0) (by omega) (by omega) (by omega) (by omega) hat (fun Q' z => ⟨_, u3, _, u4, z _ _ _ H4 (Grow.refl h4.sub) (.int _) dv4⟩) fun x dx l B5 H5 g5 nx nl m5 => ?_
  have h5 := h4.grow g5
  have dv5 := dp_mono g5.bb _ _ dv4
  refine ⟨vr, u4, (by show 1 ≤ sizeLine; decide), fun wy nwy => ⟨(by show 2 ≤ sizeLine; decide), fun tp ntp => ?_⟩⟩
  refine ⟨tp, [.ref x, .ref wy], rfl, SqT.of upd_same, rfl, .ref x, [.ref wy], rfl, .ref wy, [], rfl, rfl, ?_⟩
  have s6 : Same H5 (upd (upd H5 wy (.lst [vr])) tp (.tup [.ref x, .ref wy])) := (same_new nwy).trans (same_new ntp)
  have g6 : Grow B5 H5 B5 (upd (upd H5 wy (.lst [vr])) tp (.tup [.ref x, .ref wy])) := grow_same h5.sub s6
  have hwt : wy ≠ tp := fun z => by rw [← z, upd_same] at ntp; cases ntp
  have w6 : upd (upd H5 wy (.lst [vr])) tp (.tup [.ref x, .ref wy]) wy = some (.lst [vr]) := by rw [upd_ne hwt, upd_same]
  have gg : Og ⟨p, p, x, dx, l, sc, vr, cap, row0⟩ := ⟨by show (1 : Int) ≤ cap; omega, by show (cap : Int) ≤ 9; omega, by show 1 ≤ row0.length; omega, by show row0.length ≤ 24; omega, hat⟩
  refine others_ok (B := B5) (o := ⟨p, p, x, dx, l, sc, vr, cap, row0⟩) gg (by rw [List.getElem?_set_ne (by decide), List.getElem?_set_ne (by decide)]; exact u3) (by rw [List.getElem?_set_ne (by decide), List.getElem?_set_ne (by decide)]; exact u4) g6.bh dv5 fun ot B7 H7 g7 hot => ?_
  have g67 := g6.trans g7
  obtain ⟨vN, vs, b1, b2, b3, b4⟩ := m5.ob
  have hv : Hv K Z.C Ts B0 ⟨p, ot, x, dx, l, sc, vr, cap, row0⟩ wy B7 H7 c3 row0 [] ([] ++ [row0]) := by
    have h7 := h5.grow g67
    refine ⟨h7.n0, h7.b0, h7.sub, h7.np, h7.cell, h7.ok, m5.grow g67, ?_, ⟨[vr], g7.hh _ _ w6, .cons (dp_mono g67.bb _ _ dv5) .nil⟩, fun z => ?_, fun z => ?_, fun z => ?_, dp_mono g67.bb _ _ dv5, hot, h7.tabs⟩
    · exact g7.at_none (h5.sub.free nwy) w6
    · have z' : p = l := z
      rw [← z', h4.cell] at nl; cases nl
    · have z' : p = wy := z
      rw [← z', h5.cell] at nwy; cases nwy
    · have z' : wy = l := z
      rw [z', b3] at nwy; cases nwy
  have g : Og ⟨p, ot, x, dx, l, sc, vr, cap, row0⟩ := ⟨gg.c1, gg.c2, gg.l1, gg.l2, gg.at_⟩
  have hs : Sv ⟨p, ot, x, dx, l, sc, vr, cap, row0⟩ wy (((((σ.set 3 (some (.int cap))).set 4 (some vr)).set 5 (some (.ref x))).set 6 (some (.ref wy))).set 7 (some (.ref ot))) := sv_start (o := ⟨p, ot, x, dx, l, sc, vr, cap, row0⟩) hl s0 s2
  have W : Wv ⟨p, ot, x, dx, l, sc, vr, cap, row0⟩ row0 [] := ⟨rfl, fun r hr => by rw [List.mem_singleton.mp hr]⟩
  refine turns_ok Z U g hs hv W rfl fun wy' σ' B8 H8 c8 row' past' W' l' hs8 h8 => ?_
  refine fresh_ok Z U g hs8 h8 fun f B9 H9 h9 hf9 => ?_
  have hs9 := hs8.set (i := 11) (by decide) (some (.ref f))
  have t11 : (σ'.set 11 (some (V.ref f)))[11]? = some (some (.ref f)) := hs8.at (by decide) _
  refine same_ok Z hs9 h9 fun B10 H10 s10 h10 => ?_
  have hs10 := hs9.set (i := 12) (by decide) (some (V.bl (decide (row' = row0))))
  have t12 : ((σ'.set 11 (some (V.ref f))).set 12 (some (V.bl (decide (row' = row0)))))[12]? = some (some (.bl (decide (row' = row0)))) := hs9.at (by decide) _
  have t11' : ((σ'.set 11 (some (V.ref f))).set 12 (some (V.bl (decide (row' = row0)))))[11]? = some (some (.ref f)) := by rw [List.getElem?_set_ne (by decide)]; exact t11
  have hf10 := hf9.mono s10
  have hn : row'.length ≤ 1000 := by rw [W'.row]; have := g.l2; omega
  refine if1_ok Z hs10 h10 hn t11' hf10 t12 fun B11 H11 s11 h11 => ?_
  have hf11 := hf10.mono s11
  refine if2_ok Z U g hs10 h11 t11' hf11 fun B12 H12 s12 h12 => ?_
  have hf12 := hf11.mono s12
  refine backs_ok Z U g hs10 h12 W' l' t11' hf12 fun σ2 B13 H13 hs13 h13 t13 hf13 => ?_
  exact if3_ok Z g hs13 h13 t13 hf13 fun B14 H14 c14 h14 => q σ2 B14 H14 hs13.len hs13.s0 h14.b0 h14.sub h14.tabs
end
end X
/-! X41zg: the law's text, read; the law. -/
namespace X
open PySem PySem.Spec PyProof.Rows L2 DL DM EX LamX
section
variable {P : Program} {w : World} {K : PySem.W.Frag} {mg : Str → Option Value} {base : Heap}
def tLaw (K : PySem.W.Frag) (mg : Str → Option Value) (U : TC K mg) (C : Addr) (Ts : List (Addr × Str)) : TS :=
  tSeq (tFor (iRng1 (tCons (tCB (rMaxA K) (tCons (tC (.int 1)) (tCons (tCB (rMinA K) (tCons (tC (.int 6)) (tCons (tCB (rLenS K) (tCons (tVar 0) tNil)) tNil))) tNil))) tNil)) (gName 1)
    (tSeq (tAsg (tCall (DL.spCell K cellF) [] C8.E0 (tCons (tVar 0) (tCons (tVar 1) tNil))) (gName 2)) (tBody K mg U C Ts))) (tRet (tC (.bl true)))
/-- what the law asks -/
structure LawG (K : PySem.W.Frag) (mg : Str → Option Value) (base : Heap) (T : TX K mg) (Ts : List (Addr × Str)) where
  cS : Addr
  PS : Addr
  CS : CdOf K "_law_stands_so" s_l_stands_so T.f_l_stands_so T.d_l_stands_so cS
  TS : Tb base mg Ts "_law_stands_so" cS PS
  cR : Addr
  PR : Addr
  CR : CdOf K "_law_refused_so" s_l_refused_so T.f_l_refused_so T.d_l_refused_so cR
  TR : Tb base mg Ts "_law_refused_so" cR PR
  cL : Addr
  PL : Addr
  CL : CdOf K "law" s_law T.f_law T.d_law cL
  TL : Tb base mg Ts "law" cL PL
  b_max : mg "max" = none
  b_min : mg "min" = none
theorem law_text (T : TX K mg) (U : TC K mg) (Z : TB K mg) (R : TR K mg U) (ZZ : TZ K mg U) {Ts : List (Addr × Str)} (G : LawG K mg base T Ts) (A : Around) (l : List Env) (s : Shared) (H : Hp) (E : XK) (hr : Room 7 (XC P w K mg base N_law "law" s_law T.f_law G.cL A l s H E).A) :
    ∃ t, PSs (XC P w K mg base N_law "law" s_law T.f_law G.cL A l s H E) (defBody s_law) t ∧ t = tLaw K mg U Z.C Ts := by
  refine ⟨_, pss_cons (ps_for PassesOwn.never rfl (pi_range1 (by rfl) T.b_range (pa_cons (pe_callB (call_maxK (K := K) rfl rfl) (by rfl) G.b_max (by decide +kernel) (pa_cons pe_int (pa_cons (pe_callB (call_minK (K := K) rfl rfl) (by rfl) G.b_min (by decide +kernel) (pa_cons pe_int (pa_cons (pe_callB (call_lenK (K := K) rfl) (by rfl) T.b_len (by decide +kernel) (pa_cons (pv 0) pa_nil)) pa_nil))) pa_nil))) pa_nil)) (pg_name (i := 1) sc_law.nd rfl (by first | exact Or.inl rfl | exact Or.inr rfl))
    (pss_cons (ps_set (i := 2) sc_law.nd rfl (by first | exact Or.inl rfl | exact Or.inr rfl) (pe_call (ok_l_draws T) (hr.mono (by decide)) (by rfl) T.g_l_draws T.F_l_draws.kp (b_l_draws T) .nil pass0 (pa_cons (pv 0) (pa_cons (pv 1) pa_nil))))
    (pss_cons (ps_set (i := 3) sc_law.nd rfl (by first | exact Or.inl rfl | exact Or.inr rfl) (pe_op (op_addK (K := K) rfl) pe_int (pe_call (ok_l_draw T) (hr.mono (by decide)) (by rfl) T.g_l_draw T.F_l_draw.kp (b_l_draw T) .nil pass0 (pa_cons (pv 2) (pa_cons pe_int pa_nil)))))
    (pss_cons (ps_set (i := 4) sc_law.nd rfl (by first | exact Or.inl rfl | exact Or.inr rfl) (pe_call (ok_l_row T) (hr.mono (by decide)) (by rfl) T.g_l_row T.F_l_row.kp (b_l_row T) .nil pass0 (pa_cons (pv 2) (pa_cons (pe_op (op_addK (K := K) rfl) pe_int (pe_call (ok_l_draw T) (hr.mono (by decide)) (by rfl) T.g_l_draw T.F_l_draw.kp (b_l_draw T) .nil pass0 (pa_cons (pv 2) (pa_cons pe_int pa_nil)))) (pa_cons (pv 3) pa_nil)))))
    (pss_cons (ps_if (pt_not (pt_val (pe_call (ok_refused T U Z R ZZ G.CR G.TR) (hr.mono (by decide)) (by rfl) T.g_l_refused_so T.F_l_refused_so.kp (b_l_refused_so T) .nil pass0 (pa_cons (pv 3) (pa_cons (pv 4) pa_nil))))) (pss_one (ps_ret pe_bl)) pss_nil)
    (pss_cons (ps_asg (pe_tup (pa_cons (pe_make Z.mkB (ok_init T U Z R) (hr.mono (by decide)) (by rfl) Z.g (b_b_init Z) .nil passN (pa_cons (pv 3) (pa_cons (pv 4) pa_nil))) (pa_cons (pe_lst (pa_cons (pv 4) pa_nil)) pa_nil))) (pg_tupK (K := K) (n := 2) rfl (by rfl) (pgs_cons (pg_name (i := 5) sc_law.nd rfl (by first | exact Or.inl rfl | exact Or.inr rfl)) (pgs_cons (pg_name (i := 6) sc_law.nd rfl (by first | exact Or.inl rfl | exact Or.inr rfl)) pgs_nil))))
    (pss_cons (ps_set (i := 7) sc_law.nd rfl (by first | exact Or.inl rfl | exact Or.inr rfl) (pe_lst (pa_cons (pe_make Z.mkB (ok_init T U Z R) (hr.mono (by decide)) (by rfl) Z.g (b_b_init Z) .nil passN (pa_cons pe_int (pa_cons (pe_op (op_addK (K := K) rfl) (pe_slice (sl_K (K := K) rfl) (pv 4) po_none (po_some (pe_un un_neg pe_int))) (pe_tup (pa_cons pe_int pa_nil))) pa_nil)))
        (pa_cons (pe_make Z.mkB (ok_init T U Z R) (hr.mono (by decide)) (by rfl) Z.g (b_b_init Z) .nil passN (pa_cons (pv 3) (pa_cons (pe_revK (K := K) rfl (pv 4)) pa_nil)))
        (pa_cons (pe_make Z.mkB (ok_init T U Z R) (hr.mono (by decide)) (by rfl) Z.g (b_b_init Z) .nil passN (pa_cons pe_int (pa_cons (pe_ifExp (pt_cmpR op_lt (pe_callB (call_lenK (K := K) rfl) (by rfl) T.b_len (by decide +kernel) (pa_cons (pv 4) pa_nil)) pe_int (nomark _)) (pe_op (op_addK (K := K) rfl) (pv 4) (pe_tup (pa_cons pe_int pa_nil))) (pe_orT (pe_slice (sl_K (K := K) rfl) (pv 4) (po_some pe_int) po_none) (pe_one (pe_tup (pa_cons pe_int pa_nil))))) pa_nil))) pa_nil)))))
    (pss_cons (ps_for PassesOwn.never rfl (pi_range1 (by rfl) T.b_range (pa_cons pe_int pa_nil)) (pg_name (i := 8) sc_law.nd rfl (by first | exact Or.inl rfl | exact Or.inr rfl))
      (pss_cons (ps_if (pt_cmpR (op_eqK (K := K) rfl hr.units) (pe_call (ok_l_draw T) (hr.mono (by decide)) (by rfl) T.g_l_draw T.F_l_draw.kp (b_l_draw T) .nil pass0 (pa_cons (pv 2) (pa_cons pe_int pa_nil))) pe_int (nomark _))
        (pss_cons (ps_set (i := 9) sc_law.nd rfl (by first | exact Or.inl rfl | exact Or.inr rfl) (pe_ifExp (pt_cmpR op_gt (pe_callB (call_lenK (K := K) rfl) (by rfl) T.b_len (by decide +kernel) (pa_cons (pv 6) pa_nil)) pe_int (nomark _)) (pe_tup (pa_cons pe_str (pa_cons pe_non pa_nil))) (pe_tup (pa_cons pe_str pa_nil))))
        (pss_cons (ps_if (pt_cmpR (op_neK (K := K) rfl hr.units) (pe_lam41 T U ZZ G.TL.tb (by rfl) G.TL.mem G.TL.u (hr.mono (by decide)) (lamS_by (by decide +kernel)) rfl (fun _ _ _ _ _ => rfl) (fun A l s H E f c' hr => pe_meth0 (pv 5) Z.cl Z.M_back (ok_back T U Z R) (hr.mono (by decide)) (b_b_back Z) .nil passL)) (pv 9) (nomark _)) (pss_one (ps_ret pe_bl)) pss_nil)
        (pss_one (ps_set (i := 6) sc_law.nd rfl (by first | exact Or.inl rfl | exact Or.inr rfl) (pe_op (op_addK (K := K) rfl) (pe_slice (sl_K (K := K) rfl) (pv 6) po_none (po_some pe_int)) (pe_slice (sl_K (K := K) rfl) (pv 6) (po_some pe_int) (po_some (pe_un un_neg pe_int))))))))
        (pss_cons (ps_set (i := 10) sc_law.nd rfl (by first | exact Or.inl rfl | exact Or.inr rfl) (pe_call (ok_l_a_deed T) (hr.mono (by decide)) (by rfl) T.g_l_a_deed T.F_l_a_deed.kp (b_l_a_deed T) .nil pass0 (pa_cons (pv 2) (pa_cons (pe_callB (call_lenK (K := K) rfl) (by rfl) T.b_len (by decide +kernel) (pa_cons (pv 4) pa_nil)) pa_nil))))
        (pss_cons (ps_set (i := 9) sc_law.nd rfl (by first | exact Or.inl rfl | exact Or.inr rfl) (pe_call (ok_l_bench_due T) (hr.mono (by decide)) (by rfl) T.g_l_bench_due T.F_l_bench_due.kp (b_l_bench_due T) .nil pass0 (pa_cons (pv 3) (pa_cons (pe_ix (ix_K (K := K) rfl) (pv 6) (pe_un un_neg pe_int) (fun _ _ => rfl)) (pa_cons (pv 10) pa_nil)))))
        (pss_cons (ps_if (pt_cmpR (op_neK (K := K) rfl hr.units) (pe_lam41 T U ZZ G.TL.tb (by rfl) G.TL.mem G.TL.u (hr.mono (by decide)) (lamS_by (by decide +kernel)) rfl (fun _ _ _ _ _ => rfl) (fun A l s H E f c' hr => pe_call (ok_done T U Z R ZZ) (hr.mono (by decide)) (by rfl) T.g_l_bench_done T.F_l_bench_done.kp (b_l_bench_done T) .nil passL (pa_cons (pv 5) (pa_cons (pv 10) pa_nil))))
            (pe_ifExp (pt_cmpR (op_eqK (K := K) rfl hr.units) (pe_ix (ix_K (K := K) rfl) (pv 9) pe_int (fun _ _ => rfl)) pe_str (nomark _)) (pe_tup (pa_cons pe_str (pa_cons pe_non pa_nil))) (pv 9)) (nomark _)) (pss_one (ps_ret pe_bl)) pss_nil)
        (pss_one (ps_if (pt_cmpR (op_eqK (K := K) rfl hr.units) (pe_ix (ix_K (K := K) rfl) (pv 9) pe_int (fun _ _ => rfl)) pe_str (nomark _)) (pss_one (ps_expr (pe_bm PySem.F.plainAttrs_list PySem.F.slot_list_append PySem.F.type_list_append mt_append (pv 6) (pa_cons (pe_ix (ix_K (K := K) rfl) (pv 9) pe_int (fun _ _ => rfl)) pa_nil)))) pss_nil))))))
      (pss_one (ps_if (pt_not (pt_val (pe_call (ok_stands T U Z R ZZ G.CS G.TS) (hr.mono (by decide)) (by rfl) T.g_l_stands_so T.F_l_stands_so.kp (b_l_stands_so T) .nil pass0 (pa_cons (pv 2) (pa_cons (pv 5) (pa_cons (pe_ix (ix_K (K := K) rfl) (pv 6) (pe_un un_neg pe_int) (fun _ _ => rfl)) (pa_cons (pe_call (ok_l_ofR T) (hr.mono (by decide)) (by rfl) T.g_l_of T.F_l_of.kp (b_l_of T) .nil pass0 (pa_cons (pv 2) (pa_cons (pv 7) pa_nil))) pa_nil))))))) (pss_one (ps_ret pe_bl)) pss_nil))))
    (pss_cons (ps_set (i := 11) sc_law.nd rfl (by first | exact Or.inl rfl | exact Or.inr rfl) (L2.pe_makeK0 Z.mkB (ok_init T U Z R) (hr.mono (by decide)) (by rfl) Z.g (kbn_init Z) passN (pk_cons (pv 4) (pk_cons (pv 3) pk_nil))))
    (pss_cons (ps_set (i := 12) sc_law.nd rfl (by first | exact Or.inl rfl | exact Or.inr rfl) (pe_cmpR (op_eqK (K := K) rfl hr.units) (pe_ix (ix_K (K := K) rfl) (pv 6) (pe_un un_neg pe_int) (fun _ _ => rfl)) (pv 4) (nomark _)))
    (pss_cons (ps_if (PW.pt (pw_or (pt_cmpR (op_neK (K := K) rfl hr.units) (pe_cmpR (op_eqO (ok_eq T Z) Z.M_eq (b_b_eq Z) (hr.mono (by decide)) passN) (pv 5) (pv 11) (nomark _)) (pv 12) (nomark _))
        (pw_or (pt_cmpR (op_eqK (K := K) rfl hr.units) (pe_cmpR (op_neO (ok_eq T Z) Z.M_eq Z.hne Z.hm (b_b_eq Z) (hr.mono (by decide)) passN) (pv 5) (pv 11) (nomark _)) (pv 12) (nomark _))
        (pw_or1 (pt_cmpR (op_eqO (ok_eq T Z) Z.M_eq (b_b_eq Z) (hr.mono (by decide)) passN) (pv 5) (pe_meth0 (pv 5) Z.cl Z.M_row (ok_row Z) (hr.mono (by decide)) (b_b_row Z) .nil passN) (nomark _)))))) (pss_one (ps_ret pe_bl)) pss_nil)
    (pss_cons (ps_if (PW.pt (pw_and (pt_cmpR op_lt (pv 3) pe_int (nomark _)) (pw_and1 (pt_cmpR (op_eqO (ok_eq T Z) Z.M_eq (b_b_eq Z) (hr.mono (by decide)) passN) (pv 11) (pe_make Z.mkB (ok_init T U Z R) (hr.mono (by decide)) (by rfl) Z.g (b_b_init Z) .nil passN (pa_cons (pe_op (op_addK (K := K) rfl) (pv 3) pe_int) (pa_cons (pv 4) pa_nil))) (nomark _))))) (pss_one (ps_ret pe_bl)) pss_nil)
    (pss_cons (ps_for PassesOwn.never rfl (pi_range1 (by rfl) T.b_range (pa_cons (pe_op op_sub (pe_callB (call_lenK (K := K) rfl) (by rfl) T.b_len (by decide +kernel) (pa_cons (pv 6) pa_nil)) pe_int) pa_nil)) (pg_name (i := 8) sc_law.nd rfl (by first | exact Or.inl rfl | exact Or.inr rfl)) (pss_one (ps_expr (pe_meth0 (pv 5) Z.cl Z.M_back (ok_back T U Z R) (hr.mono (by decide)) (b_b_back Z) .nil passN))))
    (pss_one (ps_if (PW.pt (pw_or (pt_not (pt_cmpR (op_eqO (ok_eq T Z) Z.M_eq (b_b_eq Z) (hr.mono (by decide)) passN) (pv 5) (pv 11) (nomark _))) (pw_or1 (pt_not (pt_val (pe_call (ok_stands T U Z R ZZ G.CS G.TS) (hr.mono (by decide)) (by rfl) T.g_l_stands_so T.F_l_stands_so.kp (b_l_stands_so T) .nil pass0 (pa_cons (pv 2) (pa_cons (pv 5) (pa_cons (pv 4) (pa_cons (pv 11) pa_nil)))))))))) (pss_one (ps_ret pe_bl)) pss_nil)))))))))))))))
    (pss_one (ps_ret pe_bl)), rfl⟩
theorem noTbl_nt {B : Hp} : NoTbl (EX.nt B) := fun x u h => (nt_some h).2
theorem ok_law (T : TX K mg) (U : TC K mg) (Z : TB K mg) (R : TR K mg U) (ZZ : TZ K mg U) {Ts : List (Addr × Str)} (G : LawG K mg base T Ts) : FnOk P w K mg base CX0 8 T.f_law T.d_law ["script"] (spLawT K Ts) := by
  refine fn_at (k := 7) G.CL sc_law (fun vs H Q E ⟨a, ns, e, _⟩ => by rw [e]; rfl) fun A l s H vs Q E hr h => ?_
  obtain ⟨t, ht, rfl⟩ := law_text (P := P) (w := w) T U Z R ZZ G A l s H E hr
  refine ⟨_, ht, ?_⟩
  obtain ⟨a, ns, rfl, hS, hlen, hT, q⟩ := h
  have s0 : (L2.start N_law [V.ref a])[0]? = some (some (.ref a)) := start_get rfl
  have sl : (L2.start N_law [V.ref a]).length = 13 := rfl
  obtain ⟨J, ej, hj0, hj1⟩ : ∃ J : Int, J = (if (if (((ns.map V.int).length : Nat) : Int) < 6 then (((ns.map V.int).length : Nat) : Int) else 6) > 1 then (if (((ns.map V.int).length : Nat) : Int) < 6 then (((ns.map V.int).length : Nat) : Int) else 6) else 1) ∧ 0 ≤ J ∧ J ≤ 1000 := by
    refine ⟨_, rfl, ?_, ?_⟩
    · split <;> omega
    · split
      · split <;> omega
      · omega
  unfold tLaw
  refine ⟨.ref a, s0, a, _, rfl, .inl hS, .inr ⟨6, _, rfl, .inr ⟨1, _, rfl, J, by rw [ej], by omega, by omega, ?_⟩⟩⟩
  refine for_range (lo := 0) (n := J.toNat) (fun _ σ' H' => (σ'.length = 13 ∧ σ'[0]? = some (some (.ref a))) ∧ SqL K H' a (ns.map V.int) ∧ Tabs Ts H') ⟨⟨sl, s0⟩, hS, hT⟩ (fun z σ' H' hi hP => ?_) fun σ' H' _ => q H'
  obtain ⟨⟨pl, p0⟩, pS, pT⟩ := hP
  obtain ⟨c, hc, okc⟩ := cellF_ok hlen (show z < 1000 by omega)
  have g0 : (σ'.set 1 (some (V.int (0 + (z : Int)))))[0]? = some (some (.ref a)) := by rw [List.getElem?_set_ne (by decide)]; exact p0
  have g1 : (σ'.set 1 (some (V.int (0 + (z : Int)))))[1]? = some (some (.int (0 + (z : Int)))) := List.getElem?_set_self (by rw [pl]; omega)
  refine ⟨.ref a, g0, .int (0 + (z : Int)), g1, a, ns, z, c, by rw [Int.zero_add]; rfl, pS, hc, fun p H2 sm np hp => ?_⟩
  have dv : Dv Ts (EX.nt H') p (EX.nt H') H2 c := ⟨noTbl_nt, Same.refl _, fun x u e => sm x u (nt_some e).1, nt_none np, hp, okc, pT.ext sm⟩
  refine body_ok Z U (sc := .ref a) (p := p) (by rw [List.length_set, List.length_set]; exact pl) (by rw [List.getElem?_set_ne (by decide)]; exact g0) (List.getElem?_set_self (by rw [List.length_set, pl]; decide)) dv fun σ3 B3 H3 l3 e3 b3 h3 T3 => ?_
  exact ⟨⟨l3, e3⟩, sqL_ext pS fun x u e n => h3 x u (b3 x u (nt_of e n)), T3⟩
end
end X
namespace X
open PySem PySem.Spec PyProof.Rows L2 DL EX LamX
/-- a code object's table -/
def tabOf (o : Obj) : Option Addr := match o.data with
  | .fields vs => match (vs[11]? : Option Value) with
    | some (.ref P) => some P
    | _ => none
  | _ => none
def OexO (C : Addr) (o : Obj) : Prop := ∃ nm q N bs bm sn sub ab col dd k0 k1 k2 k3 k5, o = excClassObj nm q C N bs bm true sn sub ab col dd k0 k1 k2 k3 k5 "ValueError.__new__" ∧ PySem.HandSPX.refsVE bm = true
theorem OexO.ok {K : PySem.W.Frag} {C : Addr} {o : Obj} (l : K.lookup C = some o) (h : OexO C o) (sa : PySem.W.findIn K (.ref C) "__setattr__" = some (some (.builtin "object.__setattr__"))) (ex : PySem.W.subIn K (.ref C) (.type "BaseException") = some true) (ty : PySem.W.typeIn K (.ref C) = some (.type "type")) (kp : PySem.W.keepIn K (.ref C) = true) : OexC K C := by
  obtain ⟨nm, q, N, bs, bm, sn, sub, ab, col, dd, k0, k1, k2, k3, k5, rfl, r⟩ := h
  exact ⟨⟨nm, q, N, bs, bm, sn, sub, ab, col, dd, k0, k1, k2, k3, k5, l, r⟩, sa, ex, ty, kp⟩
theorem tab3 {P1 P2 P3 : Addr} {a b c : Str} (h12 : P1 ≠ P2) (h13 : P1 ≠ P3) (h23 : P2 ≠ P3) : (∀ q ∈ [(P1, a), (P2, b), (P3, c)], q.1 = P1 → q.2 = a) ∧ (∀ q ∈ [(P1, a), (P2, b), (P3, c)], q.1 = P2 → q.2 = b) ∧ ∀ q ∈ [(P1, a), (P2, b), (P3, c)], q.1 = P3 → q.2 = c := by
  refine ⟨fun q hq e => ?_, fun q hq e => ?_, fun q hq e => ?_⟩ <;> simp only [List.mem_cons, List.not_mem_nil, or_false] at hq <;> rcases hq with rfl | rfl | rfl
  · rfl
  · exact absurd e.symm h12
  · exact absurd e.symm h13
  · exact absurd e h12
  · rfl
  · exact absurd e.symm h23
  · exact absurd e h13
  · exact absurd e h23
  · rfl
theorem all_mk {l : PySem.W.OpenLaw} {w : World} {K : PySem.W.Frag} {h : Heap} {mg : Str → Option Value} {fa : Addr} (X : K.In h) (G : h.Ns mainGlobals mg) (hfa : mg "law" = some (.ref fa))
  {f_is_between : Addr}
  (a_is_between : PySem.W.nsIn K mainGlobals "is_between" = some (some (.ref f_is_between)))
  {oc_is_between kV_is_between dc_is_between pm_is_between cd_is_between ct_is_between : Value} {od_is_between an_is_between : Option Addr} {sl_is_between : Array (Option Value)}
  (l_is_between : K.lookup f_is_between = some ⟨oc_is_between, od_is_between, .func (PySem.W.fnOf "is_between" "is_between" (defArgs s_is_between) (defBody s_is_between) (defScope s_is_between) .none kV_is_between dc_is_between pm_is_between an_is_between cd_is_between ct_is_between), sl_is_between⟩)
  (c_is_between : PySem.W.codeIn K cd_is_between "is_between" = true)
  (k_is_between : PySem.W.keepIn K (.ref f_is_between) = true)
  {f_is_row : Addr}
  (a_is_row : PySem.W.nsIn K mainGlobals "is_row" = some (some (.ref f_is_row)))
  {oc_is_row kV_is_row dc_is_row pm_is_row cd_is_row ct_is_row : Value} {od_is_row an_is_row : Option Addr} {sl_is_row : Array (Option Value)}
  (l_is_row : K.lookup f_is_row = some ⟨oc_is_row, od_is_row, .func (PySem.W.fnOf "is_row" "is_row" (defArgs s_is_row) (defBody s_is_row) (defScope s_is_row) .none kV_is_row dc_is_row pm_is_row an_is_row cd_is_row ct_is_row), sl_is_row⟩)
  (c_is_row : PySem.W.codeIn K cd_is_row "is_row" = true)
  (k_is_row : PySem.W.keepIn K (.ref f_is_row) = true)
  {f_counts_of : Addr}
  (a_counts_of : PySem.W.nsIn K mainGlobals "counts_of" = some (some (.ref f_counts_of)))
  {oc_counts_of kV_counts_of dc_counts_of pm_counts_of cd_counts_of ct_counts_of : Value} {od_counts_of an_counts_of : Option Addr} {sl_counts_of : Array (Option Value)}
  (l_counts_of : K.lookup f_counts_of = some ⟨oc_counts_of, od_counts_of, .func (PySem.W.fnOf "counts_of" "counts_of" (defArgs s_counts_of) (defBody s_counts_of) (defScope s_counts_of) .none kV_counts_of dc_counts_of pm_counts_of an_counts_of cd_counts_of ct_counts_of), sl_counts_of⟩)
  (c_counts_of : PySem.W.codeIn K cd_counts_of "counts_of" = true)
  (k_counts_of : PySem.W.keepIn K (.ref f_counts_of) = true)
  {f_l_draw : Addr}
  (a_l_draw : PySem.W.nsIn K mainGlobals "_law_draw" = some (some (.ref f_l_draw)))
  {oc_l_draw kV_l_draw dc_l_draw pm_l_draw cd_l_draw ct_l_draw : Value} {od_l_draw an_l_draw : Option Addr} {sl_l_draw : Array (Option Value)}
  (l_l_draw : K.lookup f_l_draw = some ⟨oc_l_draw, od_l_draw, .func (PySem.W.fnOf "_law_draw" "_law_draw" (defArgs s_l_draw) (defBody s_l_draw) (defScope s_l_draw) .none kV_l_draw dc_l_draw pm_l_draw an_l_draw cd_l_draw ct_l_draw), sl_l_draw⟩)
  (c_l_draw : PySem.W.codeIn K cd_l_draw "_law_draw" = true)
  (k_l_draw : PySem.W.keepIn K (.ref f_l_draw) = true)
  {f_l_counts : Addr}
  (a_l_counts : PySem.W.nsIn K mainGlobals "_law_counts" = some (some (.ref f_l_counts)))
  {oc_l_counts kV_l_counts dc_l_counts pm_l_counts cd_l_counts ct_l_counts : Value} {od_l_counts an_l_counts : Option Addr} {sl_l_counts : Array (Option Value)}
  (l_l_counts : K.lookup f_l_counts = some ⟨oc_l_counts, od_l_counts, .func (PySem.W.fnOf "_law_counts" "_law_counts" (defArgs s_l_counts) (defBody s_l_counts) (defScope s_l_counts) .none kV_l_counts dc_l_counts pm_l_counts an_l_counts cd_l_counts ct_l_counts), sl_l_counts⟩)
  (c_l_counts : PySem.W.codeIn K cd_l_counts "_law_counts" = true)
  (k_l_counts : PySem.W.keepIn K (.ref f_l_counts) = true)
  {f_l_truly : Addr}
  (a_l_truly : PySem.W.nsIn K mainGlobals "_law_truly" = some (some (.ref f_l_truly)))
  {oc_l_truly kV_l_truly dc_l_truly pm_l_truly cd_l_truly ct_l_truly : Value} {od_l_truly an_l_truly : Option Addr} {sl_l_truly : Array (Option Value)}
  (l_l_truly : K.lookup f_l_truly = some ⟨oc_l_truly, od_l_truly, .func (PySem.W.fnOf "_law_truly" "_law_truly" (defArgs s_l_truly) (defBody s_l_truly) (defScope s_l_truly) .none kV_l_truly dc_l_truly pm_l_truly an_l_truly cd_l_truly ct_l_truly), sl_l_truly⟩)
  (c_l_truly : PySem.W.codeIn K cd_l_truly "_law_truly" = true)
  (k_l_truly : PySem.W.keepIn K (.ref f_l_truly) = true)
  {f_l_of : Addr}
  (a_l_of : PySem.W.nsIn K mainGlobals "_law_of" = some (some (.ref f_l_of)))
  {oc_l_of kV_l_of dc_l_of pm_l_of cd_l_of ct_l_of : Value} {od_l_of an_l_of : Option Addr} {sl_l_of : Array (Option Value)}
  (l_l_of : K.lookup f_l_of = some ⟨oc_l_of, od_l_of, .func (PySem.W.fnOf "_law_of" "_law_of" (defArgs s_l_of) (defBody s_l_of) (defScope s_l_of) .none kV_l_of dc_l_of pm_l_of an_l_of cd_l_of ct_l_of), sl_l_of⟩)
  (c_l_of : PySem.W.codeIn K cd_l_of "_law_of" = true)
  (k_l_of : PySem.W.keepIn K (.ref f_l_of) = true)
  {f_l_kind_of : Addr}
  (a_l_kind_of : PySem.W.nsIn K mainGlobals "_law_kind_of" = some (some (.ref f_l_kind_of)))
  {oc_l_kind_of kV_l_kind_of dc_l_kind_of pm_l_kind_of cd_l_kind_of ct_l_kind_of : Value} {od_l_kind_of an_l_kind_of : Option Addr} {sl_l_kind_of : Array (Option Value)}
  (l_l_kind_of : K.lookup f_l_kind_of = some ⟨oc_l_kind_of, od_l_kind_of, .func (PySem.W.fnOf "_law_kind_of" "_law_kind_of" (defArgs s_l_kind_of) (defBody s_l_kind_of) (defScope s_l_kind_of) .none kV_l_kind_of dc_l_kind_of pm_l_kind_of an_l_kind_of cd_l_kind_of ct_l_kind_of), sl_l_kind_of⟩)
  (c_l_kind_of : PySem.W.codeIn K cd_l_kind_of "_law_kind_of" = true)
  (k_l_kind_of : PySem.W.keepIn K (.ref f_l_kind_of) = true)
  {f_l_refusal : Addr}
  (a_l_refusal : PySem.W.nsIn K mainGlobals "_law_refusal" = some (some (.ref f_l_refusal)))
  {oc_l_refusal kV_l_refusal dc_l_refusal pm_l_refusal cd_l_refusal ct_l_refusal : Value} {od_l_refusal an_l_refusal : Option Addr} {sl_l_refusal : Array (Option Value)}
  (l_l_refusal : K.lookup f_l_refusal = some ⟨oc_l_refusal, od_l_refusal, .func (PySem.W.fnOf "_law_refusal" "_law_refusal" (defArgs s_l_refusal) (defBody s_l_refusal) (defScope s_l_refusal) .none kV_l_refusal dc_l_refusal pm_l_refusal an_l_refusal cd_l_refusal ct_l_refusal), sl_l_refusal⟩)
  (c_l_refusal : PySem.W.codeIn K cd_l_refusal "_law_refusal" = true)
  (k_l_refusal : PySem.W.keepIn K (.ref f_l_refusal) = true)
  {f_l_told : Addr}
  (a_l_told : PySem.W.nsIn K mainGlobals "_law_told" = some (some (.ref f_l_told)))
  {oc_l_told kV_l_told dc_l_told pm_l_told cd_l_told ct_l_told : Value} {od_l_told an_l_told : Option Addr} {sl_l_told : Array (Option Value)}
  (l_l_told : K.lookup f_l_told = some ⟨oc_l_told, od_l_told, .func (PySem.W.fnOf "_law_told" "_law_told" (defArgs s_l_told) (defBody s_l_told) (defScope s_l_told) .none kV_l_told dc_l_told pm_l_told an_l_told cd_l_told ct_l_told), sl_l_told⟩)
  (c_l_told : PySem.W.codeIn K cd_l_told "_law_told" = true)
  (k_l_told : PySem.W.keepIn K (.ref f_l_told) = true)
  {f_l_draws : Addr}
  (a_l_draws : PySem.W.nsIn K mainGlobals "_law_draws" = some (some (.ref f_l_draws)))
  {oc_l_draws kV_l_draws dc_l_draws pm_l_draws cd_l_draws ct_l_draws : Value} {od_l_draws an_l_draws : Option Addr} {sl_l_draws : Array (Option Value)}
  (l_l_draws : K.lookup f_l_draws = some ⟨oc_l_draws, od_l_draws, .func (PySem.W.fnOf "_law_draws" "_law_draws" (defArgs s_l_draws) (defBody s_l_draws) (defScope s_l_draws) .none kV_l_draws dc_l_draws pm_l_draws an_l_draws cd_l_draws ct_l_draws), sl_l_draws⟩)
  (c_l_draws : PySem.W.codeIn K cd_l_draws "_law_draws" = true)
  (k_l_draws : PySem.W.keepIn K (.ref f_l_draws) = true)
  {f_l_row : Addr}
  (a_l_row : PySem.W.nsIn K mainGlobals "_law_row" = some (some (.ref f_l_row)))
  {oc_l_row kV_l_row dc_l_row pm_l_row cd_l_row ct_l_row : Value} {od_l_row an_l_row : Option Addr} {sl_l_row : Array (Option Value)}
  (l_l_row : K.lookup f_l_row = some ⟨oc_l_row, od_l_row, .func (PySem.W.fnOf "_law_row" "_law_row" (defArgs s_l_row) (defBody s_l_row) (defScope s_l_row) .none kV_l_row dc_l_row pm_l_row an_l_row cd_l_row ct_l_row), sl_l_row⟩)
  (c_l_row : PySem.W.codeIn K cd_l_row "_law_row" = true)
  (k_l_row : PySem.W.keepIn K (.ref f_l_row) = true)
  {f_l_a_deed : Addr}
  (a_l_a_deed : PySem.W.nsIn K mainGlobals "_law_a_deed" = some (some (.ref f_l_a_deed)))
  {oc_l_a_deed kV_l_a_deed dc_l_a_deed pm_l_a_deed cd_l_a_deed ct_l_a_deed : Value} {od_l_a_deed an_l_a_deed : Option Addr} {sl_l_a_deed : Array (Option Value)}
  (l_l_a_deed : K.lookup f_l_a_deed = some ⟨oc_l_a_deed, od_l_a_deed, .func (PySem.W.fnOf "_law_a_deed" "_law_a_deed" (defArgs s_l_a_deed) (defBody s_l_a_deed) (defScope s_l_a_deed) .none kV_l_a_deed dc_l_a_deed pm_l_a_deed an_l_a_deed cd_l_a_deed ct_l_a_deed), sl_l_a_deed⟩)
  (c_l_a_deed : PySem.W.codeIn K cd_l_a_deed "_law_a_deed" = true)
  (k_l_a_deed : PySem.W.keepIn K (.ref f_l_a_deed) = true)
  {f_l_is_whole : Addr}
  (a_l_is_whole : PySem.W.nsIn K mainGlobals "_law_is_whole" = some (some (.ref f_l_is_whole)))
  {oc_l_is_whole kV_l_is_whole dc_l_is_whole pm_l_is_whole cd_l_is_whole ct_l_is_whole : Value} {od_l_is_whole an_l_is_whole : Option Addr} {sl_l_is_whole : Array (Option Value)}
  (l_l_is_whole : K.lookup f_l_is_whole = some ⟨oc_l_is_whole, od_l_is_whole, .func (PySem.W.fnOf "_law_is_whole" "_law_is_whole" (defArgs s_l_is_whole) (defBody s_l_is_whole) (defScope s_l_is_whole) .none kV_l_is_whole dc_l_is_whole pm_l_is_whole an_l_is_whole cd_l_is_whole ct_l_is_whole), sl_l_is_whole⟩)
  (c_l_is_whole : PySem.W.codeIn K cd_l_is_whole "_law_is_whole" = true)
  (k_l_is_whole : PySem.W.keepIn K (.ref f_l_is_whole) = true)
  {f_l_bench_due : Addr}
  (a_l_bench_due : PySem.W.nsIn K mainGlobals "_law_bench_due" = some (some (.ref f_l_bench_due)))
  {oc_l_bench_due kV_l_bench_due dc_l_bench_due pm_l_bench_due cd_l_bench_due ct_l_bench_due : Value} {od_l_bench_due an_l_bench_due : Option Addr} {sl_l_bench_due : Array (Option Value)}
  (l_l_bench_due : K.lookup f_l_bench_due = some ⟨oc_l_bench_due, od_l_bench_due, .func (PySem.W.fnOf "_law_bench_due" "_law_bench_due" (defArgs s_l_bench_due) (defBody s_l_bench_due) (defScope s_l_bench_due) .none kV_l_bench_due dc_l_bench_due pm_l_bench_due an_l_bench_due cd_l_bench_due ct_l_bench_due), sl_l_bench_due⟩)
  (c_l_bench_due : PySem.W.codeIn K cd_l_bench_due "_law_bench_due" = true)
  (k_l_bench_due : PySem.W.keepIn K (.ref f_l_bench_due) = true)
  {f_l_bench_done : Addr}
  (a_l_bench_done : PySem.W.nsIn K mainGlobals "_law_bench_done" = some (some (.ref f_l_bench_done)))
  {oc_l_bench_done kV_l_bench_done dc_l_bench_done pm_l_bench_done cd_l_bench_done ct_l_bench_done : Value} {od_l_bench_done an_l_bench_done : Option Addr} {sl_l_bench_done : Array (Option Value)}
  (l_l_bench_done : K.lookup f_l_bench_done = some ⟨oc_l_bench_done, od_l_bench_done, .func (PySem.W.fnOf "_law_bench_done" "_law_bench_done" (defArgs s_l_bench_done) (defBody s_l_bench_done) (defScope s_l_bench_done) .none kV_l_bench_done dc_l_bench_done pm_l_bench_done an_l_bench_done cd_l_bench_done ct_l_bench_done), sl_l_bench_done⟩)
  (c_l_bench_done : PySem.W.codeIn K cd_l_bench_done "_law_bench_done" = true)
  (k_l_bench_done : PySem.W.keepIn K (.ref f_l_bench_done) = true)
  {f_l_stands_so : Addr}
  (a_l_stands_so : PySem.W.nsIn K mainGlobals "_law_stands_so" = some (some (.ref f_l_stands_so)))
  {oc_l_stands_so kV_l_stands_so dc_l_stands_so pm_l_stands_so cd_l_stands_so ct_l_stands_so : Value} {od_l_stands_so an_l_stands_so : Option Addr} {sl_l_stands_so : Array (Option Value)}
  (l_l_stands_so : K.lookup f_l_stands_so = some ⟨oc_l_stands_so, od_l_stands_so, .func (PySem.W.fnOf "_law_stands_so" "_law_stands_so" (defArgs s_l_stands_so) (defBody s_l_stands_so) (defScope s_l_stands_so) .none kV_l_stands_so dc_l_stands_so pm_l_stands_so an_l_stands_so cd_l_stands_so ct_l_stands_so), sl_l_stands_so⟩)
  (c_l_stands_so : PySem.W.codeIn K cd_l_stands_so "_law_stands_so" = true)
  (k_l_stands_so : PySem.W.keepIn K (.ref f_l_stands_so) = true)
  {f_l_refused_so : Addr}
  (a_l_refused_so : PySem.W.nsIn K mainGlobals "_law_refused_so" = some (some (.ref f_l_refused_so)))
  {oc_l_refused_so kV_l_refused_so dc_l_refused_so pm_l_refused_so cd_l_refused_so ct_l_refused_so : Value} {od_l_refused_so an_l_refused_so : Option Addr} {sl_l_refused_so : Array (Option Value)}
  (l_l_refused_so : K.lookup f_l_refused_so = some ⟨oc_l_refused_so, od_l_refused_so, .func (PySem.W.fnOf "_law_refused_so" "_law_refused_so" (defArgs s_l_refused_so) (defBody s_l_refused_so) (defScope s_l_refused_so) .none kV_l_refused_so dc_l_refused_so pm_l_refused_so an_l_refused_so cd_l_refused_so ct_l_refused_so), sl_l_refused_so⟩)
  (c_l_refused_so : PySem.W.codeIn K cd_l_refused_so "_law_refused_so" = true)
  (k_l_refused_so : PySem.W.keepIn K (.ref f_l_refused_so) = true)
  {f_law : Addr}
  (a_law : PySem.W.nsIn K mainGlobals "law" = some (some (.ref f_law)))
  {oc_law kV_law dc_law pm_law cd_law ct_law : Value} {od_law an_law : Option Addr} {sl_law : Array (Option Value)}
  (l_law : K.lookup f_law = some ⟨oc_law, od_law, .func (PySem.W.fnOf "law" "law" (defArgs s_law) (defBody s_law) (defScope s_law) .none kV_law dc_law pm_law an_law cd_law ct_law), sl_law⟩)
  (c_law : PySem.W.codeIn K cd_law "law" = true)
  (k_law : PySem.W.keepIn K (.ref f_law) = true)
  {t_MOST_PLACES : Tok}
  (z_MOST_PLACES : PySem.W.nsIn K mainGlobals "MOST_PLACES" = some (some (.int (24) t_MOST_PLACES)))
  {t_MOST_CAP : Tok}
  (z_MOST_CAP : PySem.W.nsIn K mainGlobals "MOST_CAP" = some (some (.int (9) t_MOST_CAP)))
  (z_ValueError : PySem.W.nsIn K mainGlobals "ValueError" = some none)
  (z_all : PySem.W.nsIn K mainGlobals "all" = some none)
  (z_bool : PySem.W.nsIn K mainGlobals "bool" = some none)
  (z_enumerate : PySem.W.nsIn K mainGlobals "enumerate" = some none)
  (z_int : PySem.W.nsIn K mainGlobals "int" = some none)
  (z_isinstance : PySem.W.nsIn K mainGlobals "isinstance" = some none)
  (z_len : PySem.W.nsIn K mainGlobals "len" = some none)
  (z_list : PySem.W.nsIn K mainGlobals "list" = some none)
  (z_max : PySem.W.nsIn K mainGlobals "max" = some none)
  (z_min : PySem.W.nsIn K mainGlobals "min" = some none)
  (z_range : PySem.W.nsIn K mainGlobals "range" = some none)
  (z_sum : PySem.W.nsIn K mainGlobals "sum" = some none)
  (z_tuple : PySem.W.nsIn K mainGlobals "tuple" = some none)
  (z_zip : PySem.W.nsIn K mainGlobals "zip" = some none)
  {C_Empty : Addr}
  (m_Empty : PySem.W.nsIn K mainGlobals "Empty" = some (some (.ref C_Empty)))
  {C_FormError : Addr}
  (m_FormError : PySem.W.nsIn K mainGlobals "FormError" = some (some (.ref C_FormError)))
  {C_Full : Addr}
  (m_Full : PySem.W.nsIn K mainGlobals "Full" = some (some (.ref C_Full)))
  {C_NoCap : Addr}
  (m_NoCap : PySem.W.nsIn K mainGlobals "NoCap" = some (some (.ref C_NoCap)))
  {C_NoFrame : Addr}
  (m_NoFrame : PySem.W.nsIn K mainGlobals "NoFrame" = some (some (.ref C_NoFrame)))
  {C_NoPlace : Addr}
  (m_NoPlace : PySem.W.nsIn K mainGlobals "NoPlace" = some (some (.ref C_NoPlace)))
  {C_NoRow : Addr}
  (m_NoRow : PySem.W.nsIn K mainGlobals "NoRow" = some (some (.ref C_NoRow)))
  {C_NothingLeft : Addr}
  (m_NothingLeft : PySem.W.nsIn K mainGlobals "NothingLeft" = some (some (.ref C_NothingLeft)))
  {C_NowError : Addr}
  (m_NowError : PySem.W.nsIn K mainGlobals "NowError" = some (some (.ref C_NowError)))
  {C_Short : Addr}
  (m_Short : PySem.W.nsIn K mainGlobals "Short" = some (some (.ref C_Short)))
  {C_FrameError : Addr}
  (m_FrameError : PySem.W.nsIn K mainGlobals "FrameError" = some (some (.ref C_FrameError)))
  {C_Bench : Addr}
  (m_Bench : PySem.W.nsIn K mainGlobals "Bench" = some (some (.ref C_Bench)))
  (i_Empty : PySem.W.isClsIn K C_Empty = true)
  (t_Empty : PySem.W.typeIn K (.ref C_Empty) = some (.type "type"))
  (i_FormError : PySem.W.isClsIn K C_FormError = true)
  (t_FormError : PySem.W.typeIn K (.ref C_FormError) = some (.type "type"))
  (i_Full : PySem.W.isClsIn K C_Full = true)
  (t_Full : PySem.W.typeIn K (.ref C_Full) = some (.type "type"))
  (i_NoCap : PySem.W.isClsIn K C_NoCap = true)
  (t_NoCap : PySem.W.typeIn K (.ref C_NoCap) = some (.type "type"))
  (i_NoFrame : PySem.W.isClsIn K C_NoFrame = true)
  (t_NoFrame : PySem.W.typeIn K (.ref C_NoFrame) = some (.type "type"))
  (i_NoPlace : PySem.W.isClsIn K C_NoPlace = true)
  (t_NoPlace : PySem.W.typeIn K (.ref C_NoPlace) = some (.type "type"))
  (i_NoRow : PySem.W.isClsIn K C_NoRow = true)
  (t_NoRow : PySem.W.typeIn K (.ref C_NoRow) = some (.type "type"))
  (i_NothingLeft : PySem.W.isClsIn K C_NothingLeft = true)
  (t_NothingLeft : PySem.W.typeIn K (.ref C_NothingLeft) = some (.type "type"))
  (i_NowError : PySem.W.isClsIn K C_NowError = true)
  (t_NowError : PySem.W.typeIn K (.ref C_NowError) = some (.type "type"))
  (i_Short : PySem.W.isClsIn K C_Short = true)
  (t_Short : PySem.W.typeIn K (.ref C_Short) = some (.type "type"))
  {cS PS : Addr} {oS : Obj}
  (e_cdS : cd_l_stands_so = .ref cS)
  (e_obS : K.lookup cS = some oS)
  (e_ptS : tabOf oS = some PS)
  (e_hdS : PySem.W.codeHdIn K cS PS = true)
  (e_noS : K.lookup PS = none)
  (e_tbS : h.get? PS = some (PySem.W.tabObj #[]))
  {cR PR : Addr} {oR : Obj}
  (e_cdR : cd_l_refused_so = .ref cR)
  (e_obR : K.lookup cR = some oR)
  (e_ptR : tabOf oR = some PR)
  (e_hdR : PySem.W.codeHdIn K cR PR = true)
  (e_noR : K.lookup PR = none)
  (e_tbR : h.get? PR = some (PySem.W.tabObj #[]))
  {cL PL : Addr} {oL : Obj}
  (e_cdL : cd_law = .ref cL)
  (e_obL : K.lookup cL = some oL)
  (e_ptL : tabOf oL = some PL)
  (e_hdL : PySem.W.codeHdIn K cL PL = true)
  (e_noL : K.lookup PL = none)
  (e_tbL : h.get? PL = some (PySem.W.tabObj #[]))
  (ne_SR : PS ≠ PR)
  (ne_SL : PS ≠ PL)
  (ne_RL : PR ≠ PL)
  (bF : PySem.W.subIn K (.ref C_FrameError) (.type "BaseException") = some true)
  (dF : PySem.W.hasDictIn K C_FrameError = true)
  (tF : PySem.W.typeIn K (.ref C_FrameError) = some (.type "type"))
  (g_get : PySem.W.specialIn K (.builtin "object.__class__") "__get__" = some (some (.builtin "getset_descriptor.__get__")))
  (g_tak : PySem.W.takesIn K (.builtin "object.__class__") = some true)
  (s_NoCap_Empty : PySem.W.subIn K (.ref C_NoCap) (.ref C_Empty) = some false)
  (s_NoCap_FormError : PySem.W.subIn K (.ref C_NoCap) (.ref C_FormError) = some true)
  (s_NoCap_Full : PySem.W.subIn K (.ref C_NoCap) (.ref C_Full) = some false)
  (s_NoCap_NoCap : PySem.W.subIn K (.ref C_NoCap) (.ref C_NoCap) = some true)
  (s_NoCap_NoFrame : PySem.W.subIn K (.ref C_NoCap) (.ref C_NoFrame) = some false)
  (s_NoCap_NoPlace : PySem.W.subIn K (.ref C_NoCap) (.ref C_NoPlace) = some false)
  (s_NoCap_NoRow : PySem.W.subIn K (.ref C_NoCap) (.ref C_NoRow) = some false)
  (s_NoCap_NothingLeft : PySem.W.subIn K (.ref C_NoCap) (.ref C_NothingLeft) = some false)
  (s_NoCap_NowError : PySem.W.subIn K (.ref C_NoCap) (.ref C_NowError) = some false)
  (s_NoCap_Short : PySem.W.subIn K (.ref C_NoCap) (.ref C_Short) = some false)
  (v_NoCap : PySem.W.subIn K (.ref C_NoCap) (.type "ValueError") = some true)
  (hg_NoCap : PySem.W.findIn K (.ref C_NoCap) "__getattribute__" = some (some (.builtin "BaseException.__getattribute__")))
  (hk_NoCap : PySem.W.findIn K (.ref C_NoCap) "__getattr__" = some none)
  (hs_NoCap : PySem.W.subIn K (.ref C_NoCap) (.type "BaseException") = some true)
  (hd_NoCap : PySem.W.hasDictIn K C_NoCap = true)
  (ha_NoCap : PySem.W.findIn K (.ref C_NoCap) "__class__" = some (some (.builtin "object.__class__")))
  (hm_NoCap : PySem.W.mroIn K C_NoCap (.type "object") = some true)
  (sF_NoCap : PySem.W.subIn K (.ref C_NoCap) (.ref C_FrameError) = some true)
  (kp_NoCap : PySem.W.keepIn K (.ref C_NoCap) = true)
  (s_NoRow_Empty : PySem.W.subIn K (.ref C_NoRow) (.ref C_Empty) = some false)
  (s_NoRow_FormError : PySem.W.subIn K (.ref C_NoRow) (.ref C_FormError) = some true)
  (s_NoRow_Full : PySem.W.subIn K (.ref C_NoRow) (.ref C_Full) = some false)
  (s_NoRow_NoCap : PySem.W.subIn K (.ref C_NoRow) (.ref C_NoCap) = some false)
  (s_NoRow_NoFrame : PySem.W.subIn K (.ref C_NoRow) (.ref C_NoFrame) = some false)
  (s_NoRow_NoPlace : PySem.W.subIn K (.ref C_NoRow) (.ref C_NoPlace) = some false)
  (s_NoRow_NoRow : PySem.W.subIn K (.ref C_NoRow) (.ref C_NoRow) = some true)
  (s_NoRow_NothingLeft : PySem.W.subIn K (.ref C_NoRow) (.ref C_NothingLeft) = some false)
  (s_NoRow_NowError : PySem.W.subIn K (.ref C_NoRow) (.ref C_NowError) = some false)
  (s_NoRow_Short : PySem.W.subIn K (.ref C_NoRow) (.ref C_Short) = some false)
  (v_NoRow : PySem.W.subIn K (.ref C_NoRow) (.type "ValueError") = some true)
  (hg_NoRow : PySem.W.findIn K (.ref C_NoRow) "__getattribute__" = some (some (.builtin "BaseException.__getattribute__")))
  (hk_NoRow : PySem.W.findIn K (.ref C_NoRow) "__getattr__" = some none)
  (hs_NoRow : PySem.W.subIn K (.ref C_NoRow) (.type "BaseException") = some true)
  (hd_NoRow : PySem.W.hasDictIn K C_NoRow = true)
  (ha_NoRow : PySem.W.findIn K (.ref C_NoRow) "__class__" = some (some (.builtin "object.__class__")))
  (hm_NoRow : PySem.W.mroIn K C_NoRow (.type "object") = some true)
  (sF_NoRow : PySem.W.subIn K (.ref C_NoRow) (.ref C_FrameError) = some true)
  (kp_NoRow : PySem.W.keepIn K (.ref C_NoRow) = true)
  (s_NoPlace_Empty : PySem.W.subIn K (.ref C_NoPlace) (.ref C_Empty) = some false)
  (s_NoPlace_FormError : PySem.W.subIn K (.ref C_NoPlace) (.ref C_FormError) = some true)
  (s_NoPlace_Full : PySem.W.subIn K (.ref C_NoPlace) (.ref C_Full) = some false)
  (s_NoPlace_NoCap : PySem.W.subIn K (.ref C_NoPlace) (.ref C_NoCap) = some false)
  (s_NoPlace_NoFrame : PySem.W.subIn K (.ref C_NoPlace) (.ref C_NoFrame) = some false)
  (s_NoPlace_NoPlace : PySem.W.subIn K (.ref C_NoPlace) (.ref C_NoPlace) = some true)
  (s_NoPlace_NoRow : PySem.W.subIn K (.ref C_NoPlace) (.ref C_NoRow) = some false)
  (s_NoPlace_NothingLeft : PySem.W.subIn K (.ref C_NoPlace) (.ref C_NothingLeft) = some false)
  (s_NoPlace_NowError : PySem.W.subIn K (.ref C_NoPlace) (.ref C_NowError) = some false)
  (s_NoPlace_Short : PySem.W.subIn K (.ref C_NoPlace) (.ref C_Short) = some false)
  (v_NoPlace : PySem.W.subIn K (.ref C_NoPlace) (.type "ValueError") = some true)
  (hg_NoPlace : PySem.W.findIn K (.ref C_NoPlace) "__getattribute__" = some (some (.builtin "BaseException.__getattribute__")))
  (hk_NoPlace : PySem.W.findIn K (.ref C_NoPlace) "__getattr__" = some none)
  (hs_NoPlace : PySem.W.subIn K (.ref C_NoPlace) (.type "BaseException") = some true)
  (hd_NoPlace : PySem.W.hasDictIn K C_NoPlace = true)
  (ha_NoPlace : PySem.W.findIn K (.ref C_NoPlace) "__class__" = some (some (.builtin "object.__class__")))
  (hm_NoPlace : PySem.W.mroIn K C_NoPlace (.type "object") = some true)
  (sF_NoPlace : PySem.W.subIn K (.ref C_NoPlace) (.ref C_FrameError) = some true)
  (kp_NoPlace : PySem.W.keepIn K (.ref C_NoPlace) = true)
  (s_NoFrame_Empty : PySem.W.subIn K (.ref C_NoFrame) (.ref C_Empty) = some false)
  (s_NoFrame_FormError : PySem.W.subIn K (.ref C_NoFrame) (.ref C_FormError) = some true)
  (s_NoFrame_Full : PySem.W.subIn K (.ref C_NoFrame) (.ref C_Full) = some false)
  (s_NoFrame_NoCap : PySem.W.subIn K (.ref C_NoFrame) (.ref C_NoCap) = some false)
  (s_NoFrame_NoFrame : PySem.W.subIn K (.ref C_NoFrame) (.ref C_NoFrame) = some true)
  (s_NoFrame_NoPlace : PySem.W.subIn K (.ref C_NoFrame) (.ref C_NoPlace) = some false)
  (s_NoFrame_NoRow : PySem.W.subIn K (.ref C_NoFrame) (.ref C_NoRow) = some false)
  (s_NoFrame_NothingLeft : PySem.W.subIn K (.ref C_NoFrame) (.ref C_NothingLeft) = some false)
  (s_NoFrame_NowError : PySem.W.subIn K (.ref C_NoFrame) (.ref C_NowError) = some false)
  (s_NoFrame_Short : PySem.W.subIn K (.ref C_NoFrame) (.ref C_Short) = some false)
  (v_NoFrame : PySem.W.subIn K (.ref C_NoFrame) (.type "ValueError") = some true)
  (hg_NoFrame : PySem.W.findIn K (.ref C_NoFrame) "__getattribute__" = some (some (.builtin "BaseException.__getattribute__")))
  (hk_NoFrame : PySem.W.findIn K (.ref C_NoFrame) "__getattr__" = some none)
  (hs_NoFrame : PySem.W.subIn K (.ref C_NoFrame) (.type "BaseException") = some true)
  (hd_NoFrame : PySem.W.hasDictIn K C_NoFrame = true)
  (ha_NoFrame : PySem.W.findIn K (.ref C_NoFrame) "__class__" = some (some (.builtin "object.__class__")))
  (hm_NoFrame : PySem.W.mroIn K C_NoFrame (.type "object") = some true)
  (sF_NoFrame : PySem.W.subIn K (.ref C_NoFrame) (.ref C_FrameError) = some true)
  (kp_NoFrame : PySem.W.keepIn K (.ref C_NoFrame) = true)
  (s_NothingLeft_Empty : PySem.W.subIn K (.ref C_NothingLeft) (.ref C_Empty) = some false)
  (s_NothingLeft_FormError : PySem.W.subIn K (.ref C_NothingLeft) (.ref C_FormError) = some false)
  (s_NothingLeft_Full : PySem.W.subIn K (.ref C_NothingLeft) (.ref C_Full) = some false)
  (s_NothingLeft_NoCap : PySem.W.subIn K (.ref C_NothingLeft) (.ref C_NoCap) = some false)
  (s_NothingLeft_NoFrame : PySem.W.subIn K (.ref C_NothingLeft) (.ref C_NoFrame) = some false)
  (s_NothingLeft_NoPlace : PySem.W.subIn K (.ref C_NothingLeft) (.ref C_NoPlace) = some false)
  (s_NothingLeft_NoRow : PySem.W.subIn K (.ref C_NothingLeft) (.ref C_NoRow) = some false)
  (s_NothingLeft_NothingLeft : PySem.W.subIn K (.ref C_NothingLeft) (.ref C_NothingLeft) = some true)
  (s_NothingLeft_NowError : PySem.W.subIn K (.ref C_NothingLeft) (.ref C_NowError) = some true)
  (s_NothingLeft_Short : PySem.W.subIn K (.ref C_NothingLeft) (.ref C_Short) = some false)
  (v_NothingLeft : PySem.W.subIn K (.ref C_NothingLeft) (.type "ValueError") = some true)
  (hg_NothingLeft : PySem.W.findIn K (.ref C_NothingLeft) "__getattribute__" = some (some (.builtin "BaseException.__getattribute__")))
  (hk_NothingLeft : PySem.W.findIn K (.ref C_NothingLeft) "__getattr__" = some none)
  (hs_NothingLeft : PySem.W.subIn K (.ref C_NothingLeft) (.type "BaseException") = some true)
  (hd_NothingLeft : PySem.W.hasDictIn K C_NothingLeft = true)
  (ha_NothingLeft : PySem.W.findIn K (.ref C_NothingLeft) "__class__" = some (some (.builtin "object.__class__")))
  (hm_NothingLeft : PySem.W.mroIn K C_NothingLeft (.type "object") = some true)
  (sF_NothingLeft : PySem.W.subIn K (.ref C_NothingLeft) (.ref C_FrameError) = some true)
  (kp_NothingLeft : PySem.W.keepIn K (.ref C_NothingLeft) = true)
  (s_Full_Empty : PySem.W.subIn K (.ref C_Full) (.ref C_Empty) = some false)
  (s_Full_FormError : PySem.W.subIn K (.ref C_Full) (.ref C_FormError) = some false)
  (s_Full_Full : PySem.W.subIn K (.ref C_Full) (.ref C_Full) = some true)
  (s_Full_NoCap : PySem.W.subIn K (.ref C_Full) (.ref C_NoCap) = some false)
  (s_Full_NoFrame : PySem.W.subIn K (.ref C_Full) (.ref C_NoFrame) = some false)
  (s_Full_NoPlace : PySem.W.subIn K (.ref C_Full) (.ref C_NoPlace) = some false)
  (s_Full_NoRow : PySem.W.subIn K (.ref C_Full) (.ref C_NoRow) = some false)
  (s_Full_NothingLeft : PySem.W.subIn K (.ref C_Full) (.ref C_NothingLeft) = some false)
  (s_Full_NowError : PySem.W.subIn K (.ref C_Full) (.ref C_NowError) = some true)
  (s_Full_Short : PySem.W.subIn K (.ref C_Full) (.ref C_Short) = some false)
  (v_Full : PySem.W.subIn K (.ref C_Full) (.type "ValueError") = some true)
  (hg_Full : PySem.W.findIn K (.ref C_Full) "__getattribute__" = some (some (.builtin "BaseException.__getattribute__")))
  (hk_Full : PySem.W.findIn K (.ref C_Full) "__getattr__" = some none)
  (hs_Full : PySem.W.subIn K (.ref C_Full) (.type "BaseException") = some true)
  (hd_Full : PySem.W.hasDictIn K C_Full = true)
  (ha_Full : PySem.W.findIn K (.ref C_Full) "__class__" = some (some (.builtin "object.__class__")))
  (hm_Full : PySem.W.mroIn K C_Full (.type "object") = some true)
  (sF_Full : PySem.W.subIn K (.ref C_Full) (.ref C_FrameError) = some true)
  (kp_Full : PySem.W.keepIn K (.ref C_Full) = true)
  (s_Empty_Empty : PySem.W.subIn K (.ref C_Empty) (.ref C_Empty) = some true)
  (s_Empty_FormError : PySem.W.subIn K (.ref C_Empty) (.ref C_FormError) = some false)
  (s_Empty_Full : PySem.W.subIn K (.ref C_Empty) (.ref C_Full) = some false)
  (s_Empty_NoCap : PySem.W.subIn K (.ref C_Empty) (.ref C_NoCap) = some false)
  (s_Empty_NoFrame : PySem.W.subIn K (.ref C_Empty) (.ref C_NoFrame) = some false)
  (s_Empty_NoPlace : PySem.W.subIn K (.ref C_Empty) (.ref C_NoPlace) = some false)
  (s_Empty_NoRow : PySem.W.subIn K (.ref C_Empty) (.ref C_NoRow) = some false)
  (s_Empty_NothingLeft : PySem.W.subIn K (.ref C_Empty) (.ref C_NothingLeft) = some false)
  (s_Empty_NowError : PySem.W.subIn K (.ref C_Empty) (.ref C_NowError) = some true)
  (s_Empty_Short : PySem.W.subIn K (.ref C_Empty) (.ref C_Short) = some false)
  (v_Empty : PySem.W.subIn K (.ref C_Empty) (.type "ValueError") = some true)
  (hg_Empty : PySem.W.findIn K (.ref C_Empty) "__getattribute__" = some (some (.builtin "BaseException.__getattribute__")))
  (hk_Empty : PySem.W.findIn K (.ref C_Empty) "__getattr__" = some none)
  (hs_Empty : PySem.W.subIn K (.ref C_Empty) (.type "BaseException") = some true)
  (hd_Empty : PySem.W.hasDictIn K C_Empty = true)
  (ha_Empty : PySem.W.findIn K (.ref C_Empty) "__class__" = some (some (.builtin "object.__class__")))
  (hm_Empty : PySem.W.mroIn K C_Empty (.type "object") = some true)
  (sF_Empty : PySem.W.subIn K (.ref C_Empty) (.ref C_FrameError) = some true)
  (kp_Empty : PySem.W.keepIn K (.ref C_Empty) = true)
  (x_NoCap : PySem.W.excIn K C_NoCap [.type "ValueError", .type "Exception", .type "BaseException", .type "object"] "ValueError.__new__" = true)
  (x_NoRow : PySem.W.excIn K C_NoRow [.type "ValueError", .type "Exception", .type "BaseException", .type "object"] "ValueError.__new__" = true)
  (x_NoPlace : PySem.W.excIn K C_NoPlace [.type "ValueError", .type "Exception", .type "BaseException", .type "object"] "ValueError.__new__" = true)
  (x_NoFrame : PySem.W.excIn K C_NoFrame [.type "ValueError", .type "Exception", .type "BaseException", .type "object"] "ValueError.__new__" = true)
  (x_NothingLeft : PySem.W.excIn K C_NothingLeft [.type "ValueError", .type "Exception", .type "BaseException", .type "object"] "ValueError.__new__" = true)
  (n_ga : PySem.W.specialIn K (.ref C_NowError) "__getattribute__" = some (some (.builtin "type.__getattribute__")))
  (n_rd : PySem.W.readsIn K C_NowError (.type "type") = true)
  (n_at : PySem.W.findCls K (.ref C_NowError) (.type "type") "__init__" = some (.val (.builtin "ValueError.__init__")))
  {o_Full : Obj}
  (ol_Full : K.lookup C_Full = some o_Full)
  (oe_Full : OexO C_Full o_Full)
  (sa_Full : PySem.W.findIn K (.ref C_Full) "__setattr__" = some (some (.builtin "object.__setattr__")))
  (no_Full : PySem.W.findIn K (.ref C_Full) "place" = some none)
  {f_iFull : Addr}
  (ic_Full : PySem.W.findIn K (.ref C_Full) "__init__" = some (some (.ref f_iFull)))
  (ti_Full : PySem.W.typeIn K (.ref f_iFull) = some (.type "function"))
  {oc_iFull kV_iFull dc_iFull pm_iFull cd_iFull ct_iFull : Value} {od_iFull an_iFull : Option Addr} {sl_iFull : Array (Option Value)}
  (l_iFull : K.lookup f_iFull = some ⟨oc_iFull, od_iFull, .func (PySem.W.fnOf "__init__" "Full.__init__" (defArgs s_iFull) (defBody s_iFull) (defScope s_iFull) .none kV_iFull dc_iFull pm_iFull an_iFull cd_iFull ct_iFull), sl_iFull⟩)
  (c_iFull : PySem.W.codeIn K cd_iFull "Full.__init__" = true)
  (k_iFull : PySem.W.keepIn K (.ref f_iFull) = true)
  {o_Empty : Obj}
  (ol_Empty : K.lookup C_Empty = some o_Empty)
  (oe_Empty : OexO C_Empty o_Empty)
  (sa_Empty : PySem.W.findIn K (.ref C_Empty) "__setattr__" = some (some (.builtin "object.__setattr__")))
  (no_Empty : PySem.W.findIn K (.ref C_Empty) "place" = some none)
  {f_iEmpty : Addr}
  (ic_Empty : PySem.W.findIn K (.ref C_Empty) "__init__" = some (some (.ref f_iEmpty)))
  (ti_Empty : PySem.W.typeIn K (.ref f_iEmpty) = some (.type "function"))
  {oc_iEmpty kV_iEmpty dc_iEmpty pm_iEmpty cd_iEmpty ct_iEmpty : Value} {od_iEmpty an_iEmpty : Option Addr} {sl_iEmpty : Array (Option Value)}
  (l_iEmpty : K.lookup f_iEmpty = some ⟨oc_iEmpty, od_iEmpty, .func (PySem.W.fnOf "__init__" "Empty.__init__" (defArgs s_iEmpty) (defBody s_iEmpty) (defScope s_iEmpty) .none kV_iEmpty dc_iEmpty pm_iEmpty an_iEmpty cd_iEmpty ct_iEmpty), sl_iEmpty⟩)
  (c_iEmpty : PySem.W.codeIn K cd_iEmpty "Empty.__init__" = true)
  (k_iEmpty : PySem.W.keepIn K (.ref f_iEmpty) = true)
  (b_pg : PySem.W.plainGet K C_Bench Str.empty = true)
  (b_hd : PySem.W.hasDictIn K C_Bench = true)
  (b_po : PySem.W.plainOver K C_Bench = true)
  (b_sa : PySem.W.findIn K (.ref C_Bench) "__setattr__" = some (some (.builtin "object.__setattr__")))
  (b_ncap : PySem.W.findIn K (.ref C_Bench) "cap" = some none)
  (b_nnow : PySem.W.findIn K (.ref C_Bench) "now" = some none)
  (b_nformer : PySem.W.findIn K (.ref C_Bench) "former" = some none)
  (b_mk : PySem.W.makesIn K C_Bench = true)
  (b_kp : PySem.W.keepIn K (.ref C_Bench) = true)
  (b_sT : PySem.W.subIn K (.type "tuple") (.ref C_Bench) = some false)
  (b_i : PySem.W.isClsIn K C_Bench = true)
  (b_t : PySem.W.typeIn K (.ref C_Bench) = some (.type "type"))
  (b_ne : PySem.W.findIn K (.ref C_Bench) "__ne__" = some (some (.builtin "object.__ne__")))
  (b_ha : PySem.W.findIn K (.ref C_Bench) "__class__" = some (some (.builtin "object.__class__")))
  (b_hm : PySem.W.mroIn K C_Bench (.type "object") = some true)
  {f_Binit : Addr}
  (a_Binit : PySem.W.findIn K (.ref C_Bench) "__init__" = some (some (.ref f_Binit)))
  (n_Binit : PySem.W.isFn K (.ref f_Binit) = true)
  {oc_Binit kV_Binit dc_Binit pm_Binit cd_Binit ct_Binit : Value} {od_Binit an_Binit : Option Addr} {sl_Binit : Array (Option Value)}
  (l_Binit : K.lookup f_Binit = some ⟨oc_Binit, od_Binit, .func (PySem.W.fnOf "__init__" "Bench.__init__" (defArgs sb_init) (defBody sb_init) (defScope sb_init) .none kV_Binit dc_Binit pm_Binit an_Binit cd_Binit ct_Binit), sl_Binit⟩)
  (c_Binit : PySem.W.codeIn K cd_Binit "Bench.__init__" = true)
  (k_Binit : PySem.W.keepIn K (.ref f_Binit) = true)
  {f_Blen : Addr}
  (a_Blen : PySem.W.findIn K (.ref C_Bench) "__len__" = some (some (.ref f_Blen)))
  (n_Blen : PySem.W.isFn K (.ref f_Blen) = true)
  {oc_Blen kV_Blen dc_Blen pm_Blen cd_Blen ct_Blen : Value} {od_Blen an_Blen : Option Addr} {sl_Blen : Array (Option Value)}
  (l_Blen : K.lookup f_Blen = some ⟨oc_Blen, od_Blen, .func (PySem.W.fnOf "__len__" "Bench.__len__" (defArgs sb_len) (defBody sb_len) (defScope sb_len) .none kV_Blen dc_Blen pm_Blen an_Blen cd_Blen ct_Blen), sl_Blen⟩)
  (c_Blen : PySem.W.codeIn K cd_Blen "Bench.__len__" = true)
  (k_Blen : PySem.W.keepIn K (.ref f_Blen) = true)
  {f_Beq : Addr}
  (a_Beq : PySem.W.findIn K (.ref C_Bench) "__eq__" = some (some (.ref f_Beq)))
  (n_Beq : PySem.W.isFn K (.ref f_Beq) = true)
  {oc_Beq kV_Beq dc_Beq pm_Beq cd_Beq ct_Beq : Value} {od_Beq an_Beq : Option Addr} {sl_Beq : Array (Option Value)}
  (l_Beq : K.lookup f_Beq = some ⟨oc_Beq, od_Beq, .func (PySem.W.fnOf "__eq__" "Bench.__eq__" (defArgs sb_eq) (defBody sb_eq) (defScope sb_eq) .none kV_Beq dc_Beq pm_Beq an_Beq cd_Beq ct_Beq), sl_Beq⟩)
  (c_Beq : PySem.W.codeIn K cd_Beq "Bench.__eq__" = true)
  (k_Beq : PySem.W.keepIn K (.ref f_Beq) = true)
  {f_Bkeep : Addr}
  (a_Bkeep : PySem.W.findIn K (.ref C_Bench) "keep" = some (some (.ref f_Bkeep)))
  (n_Bkeep : PySem.W.isFn K (.ref f_Bkeep) = true)
  {oc_Bkeep kV_Bkeep dc_Bkeep pm_Bkeep cd_Bkeep ct_Bkeep : Value} {od_Bkeep an_Bkeep : Option Addr} {sl_Bkeep : Array (Option Value)}
  (l_Bkeep : K.lookup f_Bkeep = some ⟨oc_Bkeep, od_Bkeep, .func (PySem.W.fnOf "keep" "Bench.keep" (defArgs sb_keep) (defBody sb_keep) (defScope sb_keep) .none kV_Bkeep dc_Bkeep pm_Bkeep an_Bkeep cd_Bkeep ct_Bkeep), sl_Bkeep⟩)
  (c_Bkeep : PySem.W.codeIn K cd_Bkeep "Bench.keep" = true)
  (k_Bkeep : PySem.W.keepIn K (.ref f_Bkeep) = true)
  {f_Bneed_place : Addr}
  (a_Bneed_place : PySem.W.findIn K (.ref C_Bench) "need_place" = some (some (.ref f_Bneed_place)))
  (n_Bneed_place : PySem.W.isFn K (.ref f_Bneed_place) = true)
  {oc_Bneed_place kV_Bneed_place dc_Bneed_place pm_Bneed_place cd_Bneed_place ct_Bneed_place : Value} {od_Bneed_place an_Bneed_place : Option Addr} {sl_Bneed_place : Array (Option Value)}
  (l_Bneed_place : K.lookup f_Bneed_place = some ⟨oc_Bneed_place, od_Bneed_place, .func (PySem.W.fnOf "need_place" "Bench.need_place" (defArgs sb_need_place) (defBody sb_need_place) (defScope sb_need_place) .none kV_Bneed_place dc_Bneed_place pm_Bneed_place an_Bneed_place cd_Bneed_place ct_Bneed_place), sl_Bneed_place⟩)
  (c_Bneed_place : PySem.W.codeIn K cd_Bneed_place "Bench.need_place" = true)
  (k_Bneed_place : PySem.W.keepIn K (.ref f_Bneed_place) = true)
  {f_Bneed_frame : Addr}
  (a_Bneed_frame : PySem.W.findIn K (.ref C_Bench) "need_frame" = some (some (.ref f_Bneed_frame)))
  (n_Bneed_frame : PySem.W.isFn K (.ref f_Bneed_frame) = true)
  {oc_Bneed_frame kV_Bneed_frame dc_Bneed_frame pm_Bneed_frame cd_Bneed_frame ct_Bneed_frame : Value} {od_Bneed_frame an_Bneed_frame : Option Addr} {sl_Bneed_frame : Array (Option Value)}
  (l_Bneed_frame : K.lookup f_Bneed_frame = some ⟨oc_Bneed_frame, od_Bneed_frame, .func (PySem.W.fnOf "need_frame" "Bench.need_frame" (defArgs sb_need_frame) (defBody sb_need_frame) (defScope sb_need_frame) .none kV_Bneed_frame dc_Bneed_frame pm_Bneed_frame an_Bneed_frame cd_Bneed_frame ct_Bneed_frame), sl_Bneed_frame⟩)
  (c_Bneed_frame : PySem.W.codeIn K cd_Bneed_frame "Bench.need_frame" = true)
  (k_Bneed_frame : PySem.W.keepIn K (.ref f_Bneed_frame) = true)
  {f_Bheld : Addr}
  (a_Bheld : PySem.W.findIn K (.ref C_Bench) "held" = some (some (.ref f_Bheld)))
  (n_Bheld : PySem.W.isFn K (.ref f_Bheld) = true)
  {oc_Bheld kV_Bheld dc_Bheld pm_Bheld cd_Bheld ct_Bheld : Value} {od_Bheld an_Bheld : Option Addr} {sl_Bheld : Array (Option Value)}
  (l_Bheld : K.lookup f_Bheld = some ⟨oc_Bheld, od_Bheld, .func (PySem.W.fnOf "held" "Bench.held" (defArgs sb_held) (defBody sb_held) (defScope sb_held) .none kV_Bheld dc_Bheld pm_Bheld an_Bheld cd_Bheld ct_Bheld), sl_Bheld⟩)
  (c_Bheld : PySem.W.codeIn K cd_Bheld "Bench.held" = true)
  (k_Bheld : PySem.W.keepIn K (.ref f_Bheld) = true)
  {f_Bput : Addr}
  (a_Bput : PySem.W.findIn K (.ref C_Bench) "put" = some (some (.ref f_Bput)))
  (n_Bput : PySem.W.isFn K (.ref f_Bput) = true)
  {oc_Bput kV_Bput dc_Bput pm_Bput cd_Bput ct_Bput : Value} {od_Bput an_Bput : Option Addr} {sl_Bput : Array (Option Value)}
  (l_Bput : K.lookup f_Bput = some ⟨oc_Bput, od_Bput, .func (PySem.W.fnOf "put" "Bench.put" (defArgs sb_put) (defBody sb_put) (defScope sb_put) .none kV_Bput dc_Bput pm_Bput an_Bput cd_Bput ct_Bput), sl_Bput⟩)
  (c_Bput : PySem.W.codeIn K cd_Bput "Bench.put" = true)
  (k_Bput : PySem.W.keepIn K (.ref f_Bput) = true)
  {f_Btake : Addr}
  (a_Btake : PySem.W.findIn K (.ref C_Bench) "take" = some (some (.ref f_Btake)))
  (n_Btake : PySem.W.isFn K (.ref f_Btake) = true)
  {oc_Btake kV_Btake dc_Btake pm_Btake cd_Btake ct_Btake : Value} {od_Btake an_Btake : Option Addr} {sl_Btake : Array (Option Value)}
  (l_Btake : K.lookup f_Btake = some ⟨oc_Btake, od_Btake, .func (PySem.W.fnOf "take" "Bench.take" (defArgs sb_take) (defBody sb_take) (defScope sb_take) .none kV_Btake dc_Btake pm_Btake an_Btake cd_Btake ct_Btake), sl_Btake⟩)
  (c_Btake : PySem.W.codeIn K cd_Btake "Bench.take" = true)
  (k_Btake : PySem.W.keepIn K (.ref f_Btake) = true)
  {f_Bexchange : Addr}
  (a_Bexchange : PySem.W.findIn K (.ref C_Bench) "exchange" = some (some (.ref f_Bexchange)))
  (n_Bexchange : PySem.W.isFn K (.ref f_Bexchange) = true)
  {oc_Bexchange kV_Bexchange dc_Bexchange pm_Bexchange cd_Bexchange ct_Bexchange : Value} {od_Bexchange an_Bexchange : Option Addr} {sl_Bexchange : Array (Option Value)}
  (l_Bexchange : K.lookup f_Bexchange = some ⟨oc_Bexchange, od_Bexchange, .func (PySem.W.fnOf "exchange" "Bench.exchange" (defArgs sb_exchange) (defBody sb_exchange) (defScope sb_exchange) .none kV_Bexchange dc_Bexchange pm_Bexchange an_Bexchange cd_Bexchange ct_Bexchange), sl_Bexchange⟩)
  (c_Bexchange : PySem.W.codeIn K cd_Bexchange "Bench.exchange" = true)
  (k_Bexchange : PySem.W.keepIn K (.ref f_Bexchange) = true)
  {f_Bturn : Addr}
  (a_Bturn : PySem.W.findIn K (.ref C_Bench) "turn" = some (some (.ref f_Bturn)))
  (n_Bturn : PySem.W.isFn K (.ref f_Bturn) = true)
  {oc_Bturn kV_Bturn dc_Bturn pm_Bturn cd_Bturn ct_Bturn : Value} {od_Bturn an_Bturn : Option Addr} {sl_Bturn : Array (Option Value)}
  (l_Bturn : K.lookup f_Bturn = some ⟨oc_Bturn, od_Bturn, .func (PySem.W.fnOf "turn" "Bench.turn" (defArgs sb_turn) (defBody sb_turn) (defScope sb_turn) .none kV_Bturn dc_Bturn pm_Bturn an_Bturn cd_Bturn ct_Bturn), sl_Bturn⟩)
  (c_Bturn : PySem.W.codeIn K cd_Bturn "Bench.turn" = true)
  (k_Bturn : PySem.W.keepIn K (.ref f_Bturn) = true)
  {f_Bback : Addr}
  (a_Bback : PySem.W.findIn K (.ref C_Bench) "back" = some (some (.ref f_Bback)))
  (n_Bback : PySem.W.isFn K (.ref f_Bback) = true)
  {oc_Bback kV_Bback dc_Bback pm_Bback cd_Bback ct_Bback : Value} {od_Bback an_Bback : Option Addr} {sl_Bback : Array (Option Value)}
  (l_Bback : K.lookup f_Bback = some ⟨oc_Bback, od_Bback, .func (PySem.W.fnOf "back" "Bench.back" (defArgs sb_back) (defBody sb_back) (defScope sb_back) .none kV_Bback dc_Bback pm_Bback an_Bback cd_Bback ct_Bback), sl_Bback⟩)
  (c_Bback : PySem.W.codeIn K cd_Bback "Bench.back" = true)
  (k_Bback : PySem.W.keepIn K (.ref f_Bback) = true)
  {f_Brow : Addr}
  (a_Brow : PySem.W.findIn K (.ref C_Bench) "row" = some (some (.ref f_Brow)))
  (n_Brow : PySem.W.isFn K (.ref f_Brow) = true)
  {oc_Brow kV_Brow dc_Brow pm_Brow cd_Brow ct_Brow : Value} {od_Brow an_Brow : Option Addr} {sl_Brow : Array (Option Value)}
  (l_Brow : K.lookup f_Brow = some ⟨oc_Brow, od_Brow, .func (PySem.W.fnOf "row" "Bench.row" (defArgs sb_row) (defBody sb_row) (defScope sb_row) .none kV_Brow dc_Brow pm_Brow an_Brow cd_Brow ct_Brow), sl_Brow⟩)
  (c_Brow : PySem.W.codeIn K cd_Brow "Bench.row" = true)
  (k_Brow : PySem.W.keepIn K (.ref f_Brow) = true)
  {f_Bcounts : Addr}
  (a_Bcounts : PySem.W.findIn K (.ref C_Bench) "counts" = some (some (.ref f_Bcounts)))
  (n_Bcounts : PySem.W.isFn K (.ref f_Bcounts) = true)
  {oc_Bcounts kV_Bcounts dc_Bcounts pm_Bcounts cd_Bcounts ct_Bcounts : Value} {od_Bcounts an_Bcounts : Option Addr} {sl_Bcounts : Array (Option Value)}
  (l_Bcounts : K.lookup f_Bcounts = some ⟨oc_Bcounts, od_Bcounts, .func (PySem.W.fnOf "counts" "Bench.counts" (defArgs sb_counts) (defBody sb_counts) (defScope sb_counts) .none kV_Bcounts dc_Bcounts pm_Bcounts an_Bcounts cd_Bcounts ct_Bcounts), sl_Bcounts⟩)
  (c_Bcounts : PySem.W.codeIn K cd_Bcounts "Bench.counts" = true)
  (k_Bcounts : PySem.W.keepIn K (.ref f_Bcounts) = true)
  {f_Btells_like : Addr}
  (a_Btells_like : PySem.W.findIn K (.ref C_Bench) "tells_like" = some (some (.ref f_Btells_like)))
  (n_Btells_like : PySem.W.isFn K (.ref f_Btells_like) = true)
  {oc_Btells_like kV_Btells_like dc_Btells_like pm_Btells_like cd_Btells_like ct_Btells_like : Value} {od_Btells_like an_Btells_like : Option Addr} {sl_Btells_like : Array (Option Value)}
  (l_Btells_like : K.lookup f_Btells_like = some ⟨oc_Btells_like, od_Btells_like, .func (PySem.W.fnOf "tells_like" "Bench.tells_like" (defArgs sb_tells_like) (defBody sb_tells_like) (defScope sb_tells_like) .none kV_Btells_like dc_Btells_like pm_Btells_like an_Btells_like cd_Btells_like ct_Btells_like), sl_Btells_like⟩)
  (c_Btells_like : PySem.W.codeIn K cd_Btells_like "Bench.tells_like" = true)
  (k_Btells_like : PySem.W.keepIn K (.ref f_Btells_like) = true) :
    LamX.LawAtS l w K CX0 8 63 "script" mg fa h := by
  have e := hfa.symm.trans (PySem.W.mg_of X G a_law)
  cases e
  let T : TX K mg := { f_is_between := _, d_is_between := _, F_is_between := fun_mk (st := s_is_between) l_is_between c_is_between k_is_between, g_is_between := PySem.W.mg_of X G a_is_between, f_is_row := _, d_is_row := _, F_is_row := fun_mk (st := s_is_row) l_is_row c_is_row k_is_row, g_is_row := PySem.W.mg_of X G a_is_row, f_counts_of := _, d_counts_of := _, F_counts_of := fun_mk (st := s_counts_of) l_counts_of c_counts_of k_counts_of, g_counts_of := PySem.W.mg_of X G a_counts_of, f_l_draw := _, d_l_draw := _, F_l_draw := fun_mk (st := s_l_draw) l_l_draw c_l_draw k_l_draw, g_l_draw := PySem.W.mg_of X G a_l_draw, f_l_counts := _, d_l_counts := _, F_l_counts := fun_mk (st := s_l_counts) l_l_counts c_l_counts k_l_counts, g_l_counts := PySem.W.mg_of X G a_l_counts, f_l_truly := _, d_l_truly := _, F_l_truly := fun_mk (st := s_l_truly) l_l_truly c_l_truly k_l_truly, g_l_truly := PySem.W.mg_of X G a_l_truly, f_l_of := _, d_l_of := _, F_l_of := fun_mk (st := s_l_of) l_l_of c_l_of k_l_of, g_l_of := PySem.W.mg_of X G a_l_of, f_l_kind_of := _, d_l_kind_of := _, F_l_kind_of := fun_mk (st := s_l_kind_of) l_l_kind_of c_l_kind_of k_l_kind_of, g_l_kind_of := PySem.W.mg_of X G a_l_kind_of, f_l_refusal := _, d_l_refusal := _, F_l_refusal := fun_mk (st := s_l_refusal) l_l_refusal c_l_refusal k_l_refusal, g_l_refusal := PySem.W.mg_of X G a_l_refusal, f_l_told := _, d_l_told := _, F_l_told := fun_mk (st := s_l_told) l_l_told c_l_told k_l_told, g_l_told := PySem.W.mg_of X G a_l_told, f_l_draws := _, d_l_draws := _, F_l_draws := fun_mk (st := s_l_draws) l_l_draws c_l_draws k_l_draws, g_l_draws := PySem.W.mg_of X G a_l_draws, f_l_row := _, d_l_row := _, F_l_row := fun_mk (st := s_l_row) l_l_row c_l_row k_l_row, g_l_row := PySem.W.mg_of X G a_l_row, f_l_a_deed := _, d_l_a_deed := _, F_l_a_deed := fun_mk (st := s_l_a_deed) l_l_a_deed c_l_a_deed k_l_a_deed, g_l_a_deed := PySem.W.mg_of X G a_l_a_deed, f_l_is_whole := _, d_l_is_whole := _, F_l_is_whole := fun_mk (st := s_l_is_whole) l_l_is_whole c_l_is_whole k_l_is_whole, g_l_is_whole := PySem.W.mg_of X G a_l_is_whole, f_l_bench_due := _, d_l_bench_due := _, F_l_bench_due := fun_mk (st := s_l_bench_due) l_l_bench_due c_l_bench_due k_l_bench_due, g_l_bench_due := PySem.W.mg_of X G a_l_bench_due, f_l_bench_done := _, d_l_bench_done := _, F_l_bench_done := fun_mk (st := s_l_bench_done) l_l_bench_done c_l_bench_done k_l_bench_done, g_l_bench_done := PySem.W.mg_of X G a_l_bench_done, f_l_stands_so := _, d_l_stands_so := _, F_l_stands_so := fun_mk (st := s_l_stands_so) l_l_stands_so c_l_stands_so k_l_stands_so, g_l_stands_so := PySem.W.mg_of X G a_l_stands_so, f_l_refused_so := _, d_l_refused_so := _, F_l_refused_so := fun_mk (st := s_l_refused_so) l_l_refused_so c_l_refused_so k_l_refused_so, g_l_refused_so := PySem.W.mg_of X G a_l_refused_so, f_law := _, d_law := _, F_law := fun_mk (st := s_law) l_law c_law k_law, g_law := PySem.W.mg_of X G a_law, t_MOST_PLACES := t_MOST_PLACES, c_MOST_PLACES := PySem.W.mg_of X G z_MOST_PLACES, t_MOST_CAP := t_MOST_CAP, c_MOST_CAP := PySem.W.mg_of X G z_MOST_CAP, b_ValueError := PySem.W.mg_none_of X G z_ValueError, b_all := PySem.W.mg_none_of X G z_all, b_bool := PySem.W.mg_none_of X G z_bool, b_int := PySem.W.mg_none_of X G z_int, b_isinstance := PySem.W.mg_none_of X G z_isinstance, b_len := PySem.W.mg_none_of X G z_len, b_list := PySem.W.mg_none_of X G z_list, b_range := PySem.W.mg_none_of X G z_range, b_sum := PySem.W.mg_none_of X G z_sum, b_tuple := PySem.W.mg_none_of X G z_tuple }
  let U : TC K mg := { b_zip := PySem.W.mg_none_of X G z_zip, b_ValueError := PySem.W.mg_none_of X G z_ValueError, b_enumerate := PySem.W.mg_none_of X G z_enumerate, F := C_FrameError, fg := PySem.W.mg_of X G m_FrameError, C_Empty := C_Empty, g_Empty := PySem.W.mg_of X G m_Empty, i_Empty := i_Empty, t_Empty := t_Empty, C_FormError := C_FormError, g_FormError := PySem.W.mg_of X G m_FormError, i_FormError := i_FormError, t_FormError := t_FormError, C_Full := C_Full, g_Full := PySem.W.mg_of X G m_Full, i_Full := i_Full, t_Full := t_Full, C_NoCap := C_NoCap, g_NoCap := PySem.W.mg_of X G m_NoCap, i_NoCap := i_NoCap, t_NoCap := t_NoCap, C_NoFrame := C_NoFrame, g_NoFrame := PySem.W.mg_of X G m_NoFrame, i_NoFrame := i_NoFrame, t_NoFrame := t_NoFrame, C_NoPlace := C_NoPlace, g_NoPlace := PySem.W.mg_of X G m_NoPlace, i_NoPlace := i_NoPlace, t_NoPlace := t_NoPlace, C_NoRow := C_NoRow, g_NoRow := PySem.W.mg_of X G m_NoRow, i_NoRow := i_NoRow, t_NoRow := t_NoRow, C_NothingLeft := C_NothingLeft, g_NothingLeft := PySem.W.mg_of X G m_NothingLeft, i_NothingLeft := i_NothingLeft, t_NothingLeft := t_NothingLeft, C_NowError := C_NowError, g_NowError := PySem.W.mg_of X G m_NowError, i_NowError := i_NowError, t_NowError := t_NowError, C_Short := C_Short, g_Short := PySem.W.mg_of X G m_Short, i_Short := i_Short, t_Short := t_Short }
  let ZZ : TZ K mg U := { zCap := ⟨s_NoCap_Empty, s_NoCap_FormError, s_NoCap_Full, s_NoCap_NoCap, s_NoCap_NoFrame, s_NoCap_NoPlace, s_NoCap_NoRow, s_NoCap_NothingLeft, s_NoCap_NowError, s_NoCap_Short, s_NoCap_NoCap, v_NoCap, ⟨hg_NoCap, hk_NoCap, hs_NoCap, hd_NoCap, ha_NoCap, g_get, g_tak, hm_NoCap⟩, PySem.W.exm_ref bF dF tF sF_NoCap⟩, zRow := ⟨s_NoRow_Empty, s_NoRow_FormError, s_NoRow_Full, s_NoRow_NoCap, s_NoRow_NoFrame, s_NoRow_NoPlace, s_NoRow_NoRow, s_NoRow_NothingLeft, s_NoRow_NowError, s_NoRow_Short, s_NoRow_NoRow, v_NoRow, ⟨hg_NoRow, hk_NoRow, hs_NoRow, hd_NoRow, ha_NoRow, g_get, g_tak, hm_NoRow⟩, PySem.W.exm_ref bF dF tF sF_NoRow⟩, zPlace := ⟨s_NoPlace_Empty, s_NoPlace_FormError, s_NoPlace_Full, s_NoPlace_NoCap, s_NoPlace_NoFrame, s_NoPlace_NoPlace, s_NoPlace_NoRow, s_NoPlace_NothingLeft, s_NoPlace_NowError, s_NoPlace_Short, s_NoPlace_NoPlace, v_NoPlace, ⟨hg_NoPlace, hk_NoPlace, hs_NoPlace, hd_NoPlace, ha_NoPlace, g_get, g_tak, hm_NoPlace⟩, PySem.W.exm_ref bF dF tF sF_NoPlace⟩, zFrame := ⟨s_NoFrame_Empty, s_NoFrame_FormError, s_NoFrame_Full, s_NoFrame_NoCap, s_NoFrame_NoFrame, s_NoFrame_NoPlace, s_NoFrame_NoRow, s_NoFrame_NothingLeft, s_NoFrame_NowError, s_NoFrame_Short, s_NoFrame_NoFrame, v_NoFrame, ⟨hg_NoFrame, hk_NoFrame, hs_NoFrame, hd_NoFrame, ha_NoFrame, g_get, g_tak, hm_NoFrame⟩, PySem.W.exm_ref bF dF tF sF_NoFrame⟩, zLeft := ⟨s_NothingLeft_Empty, s_NothingLeft_FormError, s_NothingLeft_Full, s_NothingLeft_NoCap, s_NothingLeft_NoFrame, s_NothingLeft_NoPlace, s_NothingLeft_NoRow, s_NothingLeft_NothingLeft, s_NothingLeft_NowError, s_NothingLeft_Short, s_NothingLeft_NothingLeft, v_NothingLeft, ⟨hg_NothingLeft, hk_NothingLeft, hs_NothingLeft, hd_NothingLeft, ha_NothingLeft, g_get, g_tak, hm_NothingLeft⟩, PySem.W.exm_ref bF dF tF sF_NothingLeft⟩, zFull := ⟨s_Full_Empty, s_Full_FormError, s_Full_Full, s_Full_NoCap, s_Full_NoFrame, s_Full_NoPlace, s_Full_NoRow, s_Full_NothingLeft, s_Full_NowError, s_Full_Short, s_Full_Full, v_Full, ⟨hg_Full, hk_Full, hs_Full, hd_Full, ha_Full, g_get, g_tak, hm_Full⟩, PySem.W.exm_ref bF dF tF sF_Full⟩, zEmpty := ⟨s_Empty_Empty, s_Empty_FormError, s_Empty_Full, s_Empty_NoCap, s_Empty_NoFrame, s_Empty_NoPlace, s_Empty_NoRow, s_Empty_NothingLeft, s_Empty_NowError, s_Empty_Short, s_Empty_Empty, v_Empty, ⟨hg_Empty, hk_Empty, hs_Empty, hd_Empty, ha_Empty, g_get, g_tak, hm_Empty⟩, PySem.W.exm_ref bF dF tF sF_Empty⟩, xfFull := ⟨hg_Full, hk_Full, hs_Full, hd_Full⟩, noFull := no_Full, xfEmpty := ⟨hg_Empty, hk_Empty, hs_Empty, hd_Empty⟩, noEmpty := no_Empty }
  let R : TR K mg U := { x_NoCap := x_NoCap, k_NoCap := kp_NoCap, b_NoCap := hs_NoCap, x_NoRow := x_NoRow, k_NoRow := kp_NoRow, b_NoRow := hs_NoRow, x_NoPlace := x_NoPlace, k_NoPlace := kp_NoPlace, b_NoPlace := hs_NoPlace, x_NoFrame := x_NoFrame, k_NoFrame := kp_NoFrame, b_NoFrame := hs_NoFrame, x_NothingLeft := x_NothingLeft, k_NothingLeft := kp_NothingLeft, b_NothingLeft := hs_NothingLeft, nb := ⟨n_ga, n_rd, n_at⟩, o_Full := OexO.ok ol_Full oe_Full sa_Full hs_Full t_Full kp_Full, fi_Full := _, di_Full := _, FI_Full := fun_mk (st := s_iFull) l_iFull c_iFull k_iFull, ic_Full := ic_Full, ti_Full := ti_Full, o_Empty := OexO.ok ol_Empty oe_Empty sa_Empty hs_Empty t_Empty kp_Empty, fi_Empty := _, di_Empty := _, FI_Empty := fun_mk (st := s_iEmpty) l_iEmpty c_iEmpty k_iEmpty, ic_Empty := ic_Empty, ti_Empty := ti_Empty }
  let Z : TB K mg := { C := C_Bench, g := PySem.W.mg_of X G m_Bench, cl := ⟨b_pg, b_hd, b_po, b_sa⟩, nC := b_ncap, nN := b_nnow, nF := b_nformer, tcap := t_MOST_CAP, mcap := PySem.W.mg_of X G z_MOST_CAP, f_init := _, d_init := _, F_init := fun_mk (st := sb_init) l_Binit c_Binit k_Binit, M_init := ⟨a_Binit, n_Binit, k_Binit⟩, f_len := _, d_len := _, F_len := fun_mk (st := sb_len) l_Blen c_Blen k_Blen, M_len := ⟨a_Blen, n_Blen, k_Blen⟩, f_eq := _, d_eq := _, F_eq := fun_mk (st := sb_eq) l_Beq c_Beq k_Beq, M_eq := ⟨a_Beq, n_Beq, k_Beq⟩, f_keep := _, d_keep := _, F_keep := fun_mk (st := sb_keep) l_Bkeep c_Bkeep k_Bkeep, M_keep := ⟨a_Bkeep, n_Bkeep, k_Bkeep⟩, f_need_place := _, d_need_place := _, F_need_place := fun_mk (st := sb_need_place) l_Bneed_place c_Bneed_place k_Bneed_place, M_need_place := ⟨a_Bneed_place, n_Bneed_place, k_Bneed_place⟩, f_need_frame := _, d_need_frame := _, F_need_frame := fun_mk (st := sb_need_frame) l_Bneed_frame c_Bneed_frame k_Bneed_frame, M_need_frame := ⟨a_Bneed_frame, n_Bneed_frame, k_Bneed_frame⟩, f_held := _, d_held := _, F_held := fun_mk (st := sb_held) l_Bheld c_Bheld k_Bheld, M_held := ⟨a_Bheld, n_Bheld, k_Bheld⟩, f_put := _, d_put := _, F_put := fun_mk (st := sb_put) l_Bput c_Bput k_Bput, M_put := ⟨a_Bput, n_Bput, k_Bput⟩, f_take := _, d_take := _, F_take := fun_mk (st := sb_take) l_Btake c_Btake k_Btake, M_take := ⟨a_Btake, n_Btake, k_Btake⟩, f_exchange := _, d_exchange := _, F_exchange := fun_mk (st := sb_exchange) l_Bexchange c_Bexchange k_Bexchange, M_exchange := ⟨a_Bexchange, n_Bexchange, k_Bexchange⟩, f_turn := _, d_turn := _, F_turn := fun_mk (st := sb_turn) l_Bturn c_Bturn k_Bturn, M_turn := ⟨a_Bturn, n_Bturn, k_Bturn⟩, f_back := _, d_back := _, F_back := fun_mk (st := sb_back) l_Bback c_Bback k_Bback, M_back := ⟨a_Bback, n_Bback, k_Bback⟩, f_row := _, d_row := _, F_row := fun_mk (st := sb_row) l_Brow c_Brow k_Brow, M_row := ⟨a_Brow, n_Brow, k_Brow⟩, f_counts := _, d_counts := _, F_counts := fun_mk (st := sb_counts) l_Bcounts c_Bcounts k_Bcounts, M_counts := ⟨a_Bcounts, n_Bcounts, k_Bcounts⟩, f_tells_like := _, d_tells_like := _, F_tells_like := fun_mk (st := sb_tells_like) l_Btells_like c_Btells_like k_Btells_like, M_tells_like := ⟨a_Btells_like, n_Btells_like, k_Btells_like⟩, mkB := ⟨b_mk, a_Binit, n_Binit, b_kp⟩, sT := b_sT, i := b_i, t := b_t, hne := b_ne, ha := b_ha, hn := g_get, ht := g_tak, hm := b_hm }
  subst e_cdS
  subst e_cdR
  subst e_cdL
  obtain ⟨u1, u2, u3⟩ := tab3 (a := qOf "_law_stands_so") (b := qOf "_law_refused_so") (c := qOf "law") ne_SR ne_SL ne_RL
  have m1 : (cS, PS) ∈ [(cS, PS), (cR, PR), (cL, PL)] := List.mem_cons_self
  have m2 : (cR, PR) ∈ [(cS, PS), (cR, PR), (cL, PL)] := List.mem_cons_of_mem _ List.mem_cons_self
  have m3 : (cL, PL) ∈ [(cS, PS), (cR, PR), (cL, PL)] := List.mem_cons_of_mem _ (List.mem_cons_of_mem _ List.mem_cons_self)
  refine ⟨_, [(cS, PS), (cR, PR), (cL, PL)], spLawT K [(PS, qOf "_law_stands_so"), (PR, qOf "_law_refused_so"), (PL, qOf "law")], fun p hp => ?_, fun p hp => ?_, fun p hp => ?_, fun s v => .of_eq rfl, fun H a ns hl _ hH hS => ⟨a, ns, rfl, hS, hl, fun p hp => ?_, fun _ => rfl⟩, fun base _ _ TB => ok_law T U Z R ZZ (Ts := [(PS, qOf "_law_stands_so"), (PR, qOf "_law_refused_so"), (PL, qOf "law")]) {
    cS := cS, PS := PS, CS := ⟨⟨_, _, _, _, _, _, _, _, rfl, l_l_stands_so, c_l_stands_so⟩⟩, TS := ⟨TB (cS, PS) m1, List.mem_cons_self, u1⟩,
    cR := cR, PR := PR, CR := ⟨⟨_, _, _, _, _, _, _, _, rfl, l_l_refused_so, c_l_refused_so⟩⟩, TR := ⟨TB (cR, PR) m2, List.mem_cons_of_mem _ List.mem_cons_self, u2⟩,
    cL := cL, PL := PL, CL := ⟨⟨_, _, _, _, _, _, _, _, rfl, l_law, c_law⟩⟩, TL := ⟨TB (cL, PL) m3, List.mem_cons_of_mem _ (List.mem_cons_of_mem _ List.mem_cons_self), u3⟩,
    b_max := PySem.W.mg_none_of X G z_max, b_min := PySem.W.mg_none_of X G z_min }⟩
  · simp only [List.mem_cons, List.not_mem_nil, or_false] at hp
    rcases hp with rfl | rfl | rfl
    · exact e_tbS
    · exact e_tbR
    · exact e_tbL
  · simp only [List.mem_cons, List.not_mem_nil, or_false] at hp
    rcases hp with rfl | rfl | rfl
    · exact e_noS
    · exact e_noR
    · exact e_noL
  · simp only [List.mem_cons, List.not_mem_nil, or_false] at hp
    rcases hp with rfl | rfl | rfl
    · exact PySem.W.codeHd_of_K X e_hdS
    · exact PySem.W.codeHd_of_K X e_hdR
    · exact PySem.W.codeHd_of_K X e_hdL
  · simp only [List.mem_cons, List.not_mem_nil, or_false] at hp
    rcases hp with rfl | rfl | rfl
    · exact TabS.nil (hH (cS, PS) m1)
    · exact TabS.nil (hH (cR, PR) m2)
    · exact TabS.nil (hH (cL, PL) m3)
end X

open PySem PySem.W PyProof.Rows
set_option maxHeartbeats 0 in
theorem PySem.Challenge.cw_framecount_k41_whole_a_bench_deed_by_dee_holds : PySem.Challenge.rw_framecount_k41_whole_a_bench_deed_by_dee.Holds := by
  w_on; o_law; k_head; (case hw => w_witness2)
  k_fill
  refine LamX.walk_ofTs (l := PySem.Challenge.rw_framecount_k41_whole_a_bench_deed_by_dee) (n := 63) (k := 8) (x := "script") (CX := fun _ => L2.CX0) rfl (by decide) rfl ⟨rfl, by decide, by decide⟩ (fun w h Y => PySem.W.km_in_of Y) ?F (fun _ _ _ _ _ h => h)
  case F =>
    intro w mg fa h Y KX G hmg
    refine' X.all_mk KX G hmg ?a_is_between ?l_is_between ?c_is_between ?k_is_between ?a_is_row ?l_is_row ?c_is_row ?k_is_row ?a_counts_of ?l_counts_of ?c_counts_of ?k_counts_of ?a_l_draw ?l_l_draw ?c_l_draw ?k_l_draw ?a_l_counts ?l_l_counts ?c_l_counts ?k_l_counts ?a_l_truly ?l_l_truly ?c_l_truly ?k_l_truly ?a_l_of ?l_l_of ?c_l_of ?k_l_of ?a_l_kind_of ?l_l_kind_of ?c_l_kind_of ?k_l_kind_of ?a_l_refusal ?l_l_refusal ?c_l_refusal ?k_l_refusal ?a_l_told ?l_l_told ?c_l_told ?k_l_told ?a_l_draws ?l_l_draws ?c_l_draws ?k_l_draws ?a_l_row ?l_l_row ?c_l_row ?k_l_row ?a_l_a_deed ?l_l_a_deed ?c_l_a_deed ?k_l_a_deed ?a_l_is_whole ?l_l_is_whole ?c_l_is_whole ?k_l_is_whole ?a_l_bench_due ?l_l_bench_due ?c_l_bench_due ?k_l_bench_due ?a_l_bench_done ?l_l_bench_done ?c_l_bench_done ?k_l_bench_done ?a_l_stands_so ?l_l_stands_so ?c_l_stands_so ?k_l_stands_so ?a_l_refused_so ?l_l_refused_so ?c_l_refused_so ?k_l_refused_so ?a_law ?l_law ?c_law ?k_law ?z_MOST_PLACES ?z_MOST_CAP ?z_ValueError ?z_all ?z_bool ?z_enumerate ?z_int ?z_isinstance ?z_len ?z_list ?z_max ?z_min ?z_range ?z_sum ?z_tuple ?z_zip ?m_Empty ?m_FormError ?m_Full ?m_NoCap ?m_NoFrame ?m_NoPlace ?m_NoRow ?m_NothingLeft ?m_NowError ?m_Short ?m_FrameError ?m_Bench ?i_Empty ?t_Empty ?i_FormError ?t_FormError ?i_Full ?t_Full ?i_NoCap ?t_NoCap ?i_NoFrame ?t_NoFrame ?i_NoPlace ?t_NoPlace ?i_NoRow ?t_NoRow ?i_NothingLeft ?t_NothingLeft ?i_NowError ?t_NowError ?i_Short ?t_Short ?e_cdS ?e_obS ?e_ptS ?e_hdS ?e_noS ?e_tbS ?e_cdR ?e_obR ?e_ptR ?e_hdR ?e_noR ?e_tbR ?e_cdL ?e_obL ?e_ptL ?e_hdL ?e_noL ?e_tbL ?ne_SR ?ne_SL ?ne_RL ?bF ?dF ?tF ?g_get ?g_tak ?s_NoCap_Empty ?s_NoCap_FormError ?s_NoCap_Full ?s_NoCap_NoCap ?s_NoCap_NoFrame ?s_NoCap_NoPlace ?s_NoCap_NoRow ?s_NoCap_NothingLeft ?s_NoCap_NowError ?s_NoCap_Short ?v_NoCap ?hg_NoCap ?hk_NoCap ?hs_NoCap ?hd_NoCap ?ha_NoCap ?hm_NoCap ?sF_NoCap ?kp_NoCap ?s_NoRow_Empty ?s_NoRow_FormError ?s_NoRow_Full ?s_NoRow_NoCap ?s_NoRow_NoFrame ?s_NoRow_NoPlace ?s_NoRow_NoRow ?s_NoRow_NothingLeft ?s_NoRow_NowError ?s_NoRow_Short ?v_NoRow ?hg_NoRow ?hk_NoRow ?hs_NoRow ?hd_NoRow ?ha_NoRow ?hm_NoRow ?sF_NoRow ?kp_NoRow ?s_NoPlace_Empty ?s_NoPlace_FormError ?s_NoPlace_Full ?s_NoPlace_NoCap ?s_NoPlace_NoFrame ?s_NoPlace_NoPlace ?s_NoPlace_NoRow ?s_NoPlace_NothingLeft ?s_NoPlace_NowError ?s_NoPlace_Short ?v_NoPlace ?hg_NoPlace ?hk_NoPlace ?hs_NoPlace ?hd_NoPlace ?ha_NoPlace ?hm_NoPlace ?sF_NoPlace ?kp_NoPlace ?s_NoFrame_Empty ?s_NoFrame_FormError ?s_NoFrame_Full ?s_NoFrame_NoCap ?s_NoFrame_NoFrame ?s_NoFrame_NoPlace ?s_NoFrame_NoRow ?s_NoFrame_NothingLeft ?s_NoFrame_NowError ?s_NoFrame_Short ?v_NoFrame ?hg_NoFrame ?hk_NoFrame ?hs_NoFrame ?hd_NoFrame ?ha_NoFrame ?hm_NoFrame ?sF_NoFrame ?kp_NoFrame ?s_NothingLeft_Empty ?s_NothingLeft_FormError ?s_NothingLeft_Full ?s_NothingLeft_NoCap ?s_NothingLeft_NoFrame ?s_NothingLeft_NoPlace ?s_NothingLeft_NoRow ?s_NothingLeft_NothingLeft ?s_NothingLeft_NowError ?s_NothingLeft_Short ?v_NothingLeft ?hg_NothingLeft ?hk_NothingLeft ?hs_NothingLeft ?hd_NothingLeft ?ha_NothingLeft ?hm_NothingLeft ?sF_NothingLeft ?kp_NothingLeft ?s_Full_Empty ?s_Full_FormError ?s_Full_Full ?s_Full_NoCap ?s_Full_NoFrame ?s_Full_NoPlace ?s_Full_NoRow ?s_Full_NothingLeft ?s_Full_NowError ?s_Full_Short ?v_Full ?hg_Full ?hk_Full ?hs_Full ?hd_Full ?ha_Full ?hm_Full ?sF_Full ?kp_Full ?s_Empty_Empty ?s_Empty_FormError ?s_Empty_Full ?s_Empty_NoCap ?s_Empty_NoFrame ?s_Empty_NoPlace ?s_Empty_NoRow ?s_Empty_NothingLeft ?s_Empty_NowError ?s_Empty_Short ?v_Empty ?hg_Empty ?hk_Empty ?hs_Empty ?hd_Empty ?ha_Empty ?hm_Empty ?sF_Empty ?kp_Empty ?x_NoCap ?x_NoRow ?x_NoPlace ?x_NoFrame ?x_NothingLeft ?n_ga ?n_rd ?n_at ?ol_Full ?oe_Full ?sa_Full ?no_Full ?ic_Full ?ti_Full ?l_iFull ?c_iFull ?k_iFull ?ol_Empty ?oe_Empty ?sa_Empty ?no_Empty ?ic_Empty ?ti_Empty ?l_iEmpty ?c_iEmpty ?k_iEmpty ?b_pg ?b_hd ?b_po ?b_sa ?b_ncap ?b_nnow ?b_nformer ?b_mk ?b_kp ?b_sT ?b_i ?b_t ?b_ne ?b_ha ?b_hm ?a_Binit ?n_Binit ?l_Binit ?c_Binit ?k_Binit ?a_Blen ?n_Blen ?l_Blen ?c_Blen ?k_Blen ?a_Beq ?n_Beq ?l_Beq ?c_Beq ?k_Beq ?a_Bkeep ?n_Bkeep ?l_Bkeep ?c_Bkeep ?k_Bkeep ?a_Bneed_place ?n_Bneed_place ?l_Bneed_place ?c_Bneed_place ?k_Bneed_place ?a_Bneed_frame ?n_Bneed_frame ?l_Bneed_frame ?c_Bneed_frame ?k_Bneed_frame ?a_Bheld ?n_Bheld ?l_Bheld ?c_Bheld ?k_Bheld ?a_Bput ?n_Bput ?l_Bput ?c_Bput ?k_Bput ?a_Btake ?n_Btake ?l_Btake ?c_Btake ?k_Btake ?a_Bexchange ?n_Bexchange ?l_Bexchange ?c_Bexchange ?k_Bexchange ?a_Bturn ?n_Bturn ?l_Bturn ?c_Bturn ?k_Bturn ?a_Bback ?n_Bback ?l_Bback ?c_Bback ?k_Bback ?a_Brow ?n_Brow ?l_Brow ?c_Brow ?k_Brow ?a_Bcounts ?n_Bcounts ?l_Bcounts ?c_Bcounts ?k_Bcounts ?a_Btells_like ?n_Btells_like ?l_Btells_like ?c_Btells_like ?k_Btells_like
    (case a_is_between => k_is); (case l_is_between => k_is); (case c_is_between => k_is); (case k_is_between => k_is); (case a_is_row => k_is); (case l_is_row => k_is); (case c_is_row => k_is); (case k_is_row => k_is); (case a_counts_of => k_is); (case l_counts_of => k_is); (case c_counts_of => k_is); (case k_counts_of => k_is); (case a_l_draw => k_is); (case l_l_draw => k_is); (case c_l_draw => k_is); (case k_l_draw => k_is); (case a_l_counts => k_is); (case l_l_counts => k_is); (case c_l_counts => k_is); (case k_l_counts => k_is); (case a_l_truly => k_is); (case l_l_truly => k_is); (case c_l_truly => k_is); (case k_l_truly => k_is); (case a_l_of => k_is); (case l_l_of => k_is); (case c_l_of => k_is); (case k_l_of => k_is); (case a_l_kind_of => k_is); (case l_l_kind_of => k_is); (case c_l_kind_of => k_is); (case k_l_kind_of => k_is); (case a_l_refusal => k_is); (case l_l_refusal => k_is); (case c_l_refusal => k_is); (case k_l_refusal => k_is); (case a_l_told => k_is); (case l_l_told => k_is); (case c_l_told => k_is); (case k_l_told => k_is); (case a_l_draws => k_is); (case l_l_draws => k_is); (case c_l_draws => k_is); (case k_l_draws => k_is); (case a_l_row => k_is); (case l_l_row => k_is); (case c_l_row => k_is); (case k_l_row => k_is); (case a_l_a_deed => k_is); (case l_l_a_deed => k_is); (case c_l_a_deed => k_is); (case k_l_a_deed => k_is); (case a_l_is_whole => k_is); (case l_l_is_whole => k_is); (case c_l_is_whole => k_is); (case k_l_is_whole => k_is); (case a_l_bench_due => k_is); (case l_l_bench_due => k_is); (case c_l_bench_due => k_is); (case k_l_bench_due => k_is); (case a_l_bench_done => k_is); (case l_l_bench_done => k_is); (case c_l_bench_done => k_is); (case k_l_bench_done => k_is); (case a_l_stands_so => k_is); (case l_l_stands_so => k_is); (case c_l_stands_so => k_is); (case k_l_stands_so => k_is); (case a_l_refused_so => k_is); (case l_l_refused_so => k_is); (case c_l_refused_so => k_is); (case k_l_refused_so => k_is); (case a_law => k_is); (case l_law => k_is); (case c_law => k_is); (case k_law => k_is); (case z_MOST_PLACES => k_is); (case z_MOST_CAP => k_is); (case z_ValueError => k_is); (case z_all => k_is); (case z_bool => k_is); (case z_enumerate => k_is); (case z_int => k_is); (case z_isinstance => k_is); (case z_len => k_is); (case z_list => k_is); (case z_max => k_is); (case z_min => k_is); (case z_range => k_is); (case z_sum => k_is); (case z_tuple => k_is); (case z_zip => k_is); (case m_Empty => k_is); (case m_FormError => k_is); (case m_Full => k_is); (case m_NoCap => k_is); (case m_NoFrame => k_is); (case m_NoPlace => k_is); (case m_NoRow => k_is); (case m_NothingLeft => k_is); (case m_NowError => k_is); (case m_Short => k_is); (case m_FrameError => k_is); (case m_Bench => k_is); (case i_Empty => k_is); (case t_Empty => k_is); (case i_FormError => k_is); (case t_FormError => k_is); (case i_Full => k_is); (case t_Full => k_is); (case i_NoCap => k_is); (case t_NoCap => k_is); (case i_NoFrame => k_is); (case t_NoFrame => k_is); (case i_NoPlace => k_is); (case t_NoPlace => k_is); (case i_NoRow => k_is); (case t_NoRow => k_is); (case i_NothingLeft => k_is); (case t_NothingLeft => k_is); (case i_NowError => k_is); (case t_NowError => k_is); (case i_Short => k_is); (case t_Short => k_is); (case e_cdS => rfl); (case e_obS => k_is); (case e_ptS => rfl); (case e_hdS => kernel_rfl); (case e_noS => kernel_rfl); (case e_tbS => exact PySem.W.km_tabs_of Y _ (by first | k_mem | simp)); (case e_cdR => rfl); (case e_obR => k_is); (case e_ptR => rfl); (case e_hdR => kernel_rfl); (case e_noR => kernel_rfl); (case e_tbR => exact PySem.W.km_tabs_of Y _ (by first | k_mem | simp)); (case e_cdL => rfl); (case e_obL => k_is); (case e_ptL => rfl); (case e_hdL => kernel_rfl); (case e_noL => kernel_rfl); (case e_tbL => exact PySem.W.km_tabs_of Y _ (by first | k_mem | simp)); (case ne_SR => decide); (case ne_SL => decide); (case ne_RL => decide); (case bF => k_is); (case dF => k_is); (case tF => k_is); (case g_get => k_is); (case g_tak => k_is); (case s_NoCap_Empty => k_is); (case s_NoCap_FormError => k_is); (case s_NoCap_Full => k_is); (case s_NoCap_NoCap => k_is); (case s_NoCap_NoFrame => k_is); (case s_NoCap_NoPlace => k_is); (case s_NoCap_NoRow => k_is); (case s_NoCap_NothingLeft => k_is); (case s_NoCap_NowError => k_is); (case s_NoCap_Short => k_is); (case v_NoCap => k_is); (case hg_NoCap => k_is); (case hk_NoCap => k_is); (case hs_NoCap => k_is); (case hd_NoCap => k_is); (case ha_NoCap => k_is); (case hm_NoCap => k_is); (case sF_NoCap => k_is); (case kp_NoCap => k_is); (case s_NoRow_Empty => k_is); (case s_NoRow_FormError => k_is); (case s_NoRow_Full => k_is); (case s_NoRow_NoCap => k_is); (case s_NoRow_NoFrame => k_is); (case s_NoRow_NoPlace => k_is); (case s_NoRow_NoRow => k_is); (case s_NoRow_NothingLeft => k_is); (case s_NoRow_NowError => k_is); (case s_NoRow_Short => k_is); (case v_NoRow => k_is); (case hg_NoRow => k_is); (case hk_NoRow => k_is); (case hs_NoRow => k_is); (case hd_NoRow => k_is); (case ha_NoRow => k_is); (case hm_NoRow => k_is); (case sF_NoRow => k_is); (case kp_NoRow => k_is); (case s_NoPlace_Empty => k_is); (case s_NoPlace_FormError => k_is); (case s_NoPlace_Full => k_is); (case s_NoPlace_NoCap => k_is); (case s_NoPlace_NoFrame => k_is); (case s_NoPlace_NoPlace => k_is); (case s_NoPlace_NoRow => k_is); (case s_NoPlace_NothingLeft => k_is); (case s_NoPlace_NowError => k_is); (case s_NoPlace_Short => k_is); (case v_NoPlace => k_is); (case hg_NoPlace => k_is); (case hk_NoPlace => k_is); (case hs_NoPlace => k_is); (case hd_NoPlace => k_is); (case ha_NoPlace => k_is); (case hm_NoPlace => k_is); (case sF_NoPlace => k_is); (case kp_NoPlace => k_is); (case s_NoFrame_Empty => k_is); (case s_NoFrame_FormError => k_is); (case s_NoFrame_Full => k_is); (case s_NoFrame_NoCap => k_is); (case s_NoFrame_NoFrame => k_is); (case s_NoFrame_NoPlace => k_is); (case s_NoFrame_NoRow => k_is); (case s_NoFrame_NothingLeft => k_is); (case s_NoFrame_NowError => k_is); (case s_NoFrame_Short => k_is); (case v_NoFrame => k_is); (case hg_NoFrame => k_is); (case hk_NoFrame => k_is); (case hs_NoFrame => k_is); (case hd_NoFrame => k_is); (case ha_NoFrame => k_is); (case hm_NoFrame => k_is); (case sF_NoFrame => k_is); (case kp_NoFrame => k_is); (case s_NothingLeft_Empty => k_is); (case s_NothingLeft_FormError => k_is); (case s_NothingLeft_Full => k_is); (case s_NothingLeft_NoCap => k_is); (case s_NothingLeft_NoFrame => k_is); (case s_NothingLeft_NoPlace => k_is); (case s_NothingLeft_NoRow => k_is); (case s_NothingLeft_NothingLeft => k_is); (case s_NothingLeft_NowError => k_is); (case s_NothingLeft_Short => k_is); (case v_NothingLeft => k_is); (case hg_NothingLeft => k_is); (case hk_NothingLeft => k_is); (case hs_NothingLeft => k_is); (case hd_NothingLeft => k_is); (case ha_NothingLeft => k_is); (case hm_NothingLeft => k_is); (case sF_NothingLeft => k_is); (case kp_NothingLeft => k_is); (case s_Full_Empty => k_is); (case s_Full_FormError => k_is); (case s_Full_Full => k_is); (case s_Full_NoCap => k_is); (case s_Full_NoFrame => k_is); (case s_Full_NoPlace => k_is); (case s_Full_NoRow => k_is); (case s_Full_NothingLeft => k_is); (case s_Full_NowError => k_is); (case s_Full_Short => k_is); (case v_Full => k_is); (case hg_Full => k_is); (case hk_Full => k_is); (case hs_Full => k_is); (case hd_Full => k_is); (case ha_Full => k_is); (case hm_Full => k_is); (case sF_Full => k_is); (case kp_Full => k_is); (case s_Empty_Empty => k_is); (case s_Empty_FormError => k_is); (case s_Empty_Full => k_is); (case s_Empty_NoCap => k_is); (case s_Empty_NoFrame => k_is); (case s_Empty_NoPlace => k_is); (case s_Empty_NoRow => k_is); (case s_Empty_NothingLeft => k_is); (case s_Empty_NowError => k_is); (case s_Empty_Short => k_is); (case v_Empty => k_is); (case hg_Empty => k_is); (case hk_Empty => k_is); (case hs_Empty => k_is); (case hd_Empty => k_is); (case ha_Empty => k_is); (case hm_Empty => k_is); (case sF_Empty => k_is); (case kp_Empty => k_is); (case x_NoCap => k_exc); (case x_NoRow => k_exc); (case x_NoPlace => k_exc); (case x_NoFrame => k_exc); (case x_NothingLeft => k_exc); (case n_ga => k_is); (case n_rd => k_is); (case n_at => k_is); (case ol_Full => k_is); (case oe_Full => exact ⟨_, _, _, _, _, _, _, _, _, _, _, _, _, _, _, rfl, rfl⟩); (case sa_Full => k_is); (case no_Full => k_is); (case ic_Full => k_is); (case ti_Full => k_is); (case l_iFull => k_is); (case c_iFull => k_is); (case k_iFull => k_is); (case ol_Empty => k_is); (case oe_Empty => exact ⟨_, _, _, _, _, _, _, _, _, _, _, _, _, _, _, rfl, rfl⟩); (case sa_Empty => k_is); (case no_Empty => k_is); (case ic_Empty => k_is); (case ti_Empty => k_is); (case l_iEmpty => k_is); (case c_iEmpty => k_is); (case k_iEmpty => k_is); (case b_pg => k_is); (case b_hd => k_is); (case b_po => k_is); (case b_sa => k_is); (case b_ncap => k_is); (case b_nnow => k_is); (case b_nformer => k_is); (case b_mk => k_is); (case b_kp => k_is); (case b_sT => k_is); (case b_i => k_is); (case b_t => k_is); (case b_ne => k_is); (case b_ha => k_is); (case b_hm => k_is); (case a_Binit => k_is); (case n_Binit => k_is); (case l_Binit => k_is); (case c_Binit => k_is); (case k_Binit => k_is); (case a_Blen => k_is); (case n_Blen => k_is); (case l_Blen => k_is); (case c_Blen => k_is); (case k_Blen => k_is); (case a_Beq => k_is); (case n_Beq => k_is); (case l_Beq => k_is); (case c_Beq => k_is); (case k_Beq => k_is); (case a_Bkeep => k_is); (case n_Bkeep => k_is); (case l_Bkeep => k_is); (case c_Bkeep => k_is); (case k_Bkeep => k_is); (case a_Bneed_place => k_is); (case n_Bneed_place => k_is); (case l_Bneed_place => k_is); (case c_Bneed_place => k_is); (case k_Bneed_place => k_is); (case a_Bneed_frame => k_is); (case n_Bneed_frame => k_is); (case l_Bneed_frame => k_is); (case c_Bneed_frame => k_is); (case k_Bneed_frame => k_is); (case a_Bheld => k_is); (case n_Bheld => k_is); (case l_Bheld => k_is); (case c_Bheld => k_is); (case k_Bheld => k_is); (case a_Bput => k_is); (case n_Bput => k_is); (case l_Bput => k_is); (case c_Bput => k_is); (case k_Bput => k_is); (case a_Btake => k_is); (case n_Btake => k_is); (case l_Btake => k_is); (case c_Btake => k_is); (case k_Btake => k_is); (case a_Bexchange => k_is); (case n_Bexchange => k_is); (case l_Bexchange => k_is); (case c_Bexchange => k_is); (case k_Bexchange => k_is); (case a_Bturn => k_is); (case n_Bturn => k_is); (case l_Bturn => k_is); (case c_Bturn => k_is); (case k_Bturn => k_is); (case a_Bback => k_is); (case n_Bback => k_is); (case l_Bback => k_is); (case c_Bback => k_is); (case k_Bback => k_is); (case a_Brow => k_is); (case n_Brow => k_is); (case l_Brow => k_is); (case c_Brow => k_is); (case k_Brow => k_is); (case a_Bcounts => k_is); (case n_Bcounts => k_is); (case l_Bcounts => k_is); (case c_Bcounts => k_is); (case k_Bcounts => k_is); (case a_Btells_like => k_is); (case n_Btells_like => k_is); (case l_Btells_like => k_is); (case c_Btells_like => k_is); (case k_Btells_like => k_is)

